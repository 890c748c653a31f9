import PyProof.Rows.All
import Wide.All
import OpenK.AllK
import Wide.FinOn
import HandS.ForMost
import HandS.Walk
import HandS.IsInst
import HandS.TupAny
import HandS.Wide
import HandS.Zip
import HandS.Deep
import HandS.SortInts
import HandS.Style
import PyProof.ReprReads
import PyProof.ReprRoads
import PyProof.CallFns
import PyProof.ReprLen
import PyProof.FitsInt
import HandS.SetFor
import HandS.DictComp
import HandS.More
import HandS.WordsDict
import HandS.TupLen
import HandS.Conv
import KE.GoesEnum
import PySem.Challenge.RW_dotcrowds_k31_whole_even_triangles_by_tw
set_option Elab.async false
set_option linter.all false
set_option maxRecDepth 100000
/-! Pur1: plain data and how it stands in the abstract heap. -/
namespace Pur
open PySem L2

/-- whose list it is: nobody else's (may be changed); shared, never changed again; a look at somebody's own; one that stood there ahead of all (the script, a constant) -/
inductive Fl where
  | own | frz | bor | cst
  deriving DecidableEq
def Fl.still : Fl → Bool
  | .frz => true
  | .cst => true
  | .own => false
  | .bor => false

inductive D where
  | non | bl (b : Bool) | int (i : Int) | str (s : Str)
  /-- the text that repr gives of the data -/
  | rs (x : PyData)
  | tup (xs : List D) | lst (f : Fl) (xs : List D)

mutual
/-- holds a look -/
def bor : D → Bool
  | .tup xs => borL xs
  | .lst f xs => decide (f = .bor) || borL xs
  | .non => false
  | .bl _ => false
  | .int _ => false
  | .str _ => false
  | .rs _ => false
def borL : List D → Bool
  | [] => false
  | d :: ds => bor d || borL ds
end
mutual
/-- shared through and through -/
def frz : D → Bool
  | .tup xs => frzL xs
  | .lst f xs => f.still && frzL xs
  | .non => true
  | .bl _ => true
  | .int _ => true
  | .str _ => true
  | .rs _ => true
def frzL : List D → Bool
  | [] => true
  | d :: ds => frz d && frzL ds
end
mutual
/-- a look at it -/
def look : D → D
  | .tup xs => .tup (lookL xs)
  | .lst .frz xs => .lst .frz (lookL xs)
  | .lst .cst xs => .lst .cst (lookL xs)
  | .lst .own xs => .lst .bor (lookL xs)
  | .lst .bor xs => .lst .bor (lookL xs)
  | .non => .non
  | .bl b => .bl b
  | .int i => .int i
  | .str s => .str s
  | .rs x => .rs x
def lookL : List D → List D
  | [] => []
  | d :: ds => look d :: lookL ds
end
mutual
/-- shared from now on -/
def share : D → D
  | .tup xs => .tup (shareL xs)
  | .lst .cst xs => .lst .cst (shareL xs)
  | .lst .frz xs => .lst .frz (shareL xs)
  | .lst .own xs => .lst .frz (shareL xs)
  | .lst .bor xs => .lst .bor (shareL xs)
  | .non => .non
  | .bl b => .bl b
  | .int i => .int i
  | .str s => .str s
  | .rs x => .rs x
def shareL : List D → List D
  | [] => []
  | d :: ds => share d :: shareL ds
end
mutual
/-- the data without flags -/
def py : D → PyData
  | .non => .none
  | .bl b => .bool b
  | .int i => .int i
  | .str s => .str s
  | .rs x => .str x.shown
  | .tup xs => .tuple (pyL xs)
  | .lst _ xs => .list (pyL xs)
def pyL : List D → List PyData
  | [] => []
  | d :: ds => py d :: pyL ds
end

section
variable (K : PySem.W.Frag)
mutual
/-- G: what never changes (a part of H); fp: the own lists within -/
def Rep (G H : Hp) : D → V → List Addr → Prop
  | .non, v, fp => v = .non ∧ fp = []
  | .bl b, v, fp => v = .bl b ∧ fp = []
  | .int i, v, fp => v = .int i ∧ fp = []
  | .str s, v, fp => v = .str s ∧ fp = []
  | .rs x, v, fp => v = .str x.shown ∧ fp = []
  | .tup ds, v, fp => ∃ a vs, v = .ref a ∧ G a = some (.tup vs) ∧ RepL G H ds vs fp
  | .lst f ds, v, fp => ∃ a vs g, v = .ref a ∧ RepL G H ds vs g ∧
      match f with
      | .own => H a = some (.lst vs) ∧ G a = none ∧ fp = a :: g
      | .frz => G a = some (.lst vs) ∧ g = [] ∧ fp = [] ∧ frzL ds = true
      | .cst => SqL K G a vs ∧ g = [] ∧ fp = [] ∧ frzL ds = true
      | .bor => H a = some (.lst vs) ∧ g = [] ∧ fp = []
def RepL (G H : Hp) : List D → List V → List Addr → Prop
  | [], vs, fp => vs = [] ∧ fp = []
  | d :: ds, vs, fp => ∃ v r f1 f2, vs = v :: r ∧ Rep G H d v f1 ∧ RepL G H ds r f2 ∧ fp = f1 ++ f2
end
end

/-- from (G, H) to (G', H'): only what stands at fp was changed, or shared -/
structure Ev (fp : List Addr) (G H G' H' : Hp) : Prop where
  g : Same G G'
  h : Same G' H'
  k : ∀ a, H a ≠ none → a ∉ fp → H' a = H a ∧ G' a = G a

theorem Ev.refl {fp : List Addr} {G H : Hp} (h : Same G H) : Ev fp G H G H := ⟨Same.refl _, h, fun _ _ _ => ⟨rfl, rfl⟩⟩
theorem Ev.same {G H G' H' : Hp} (e : Ev [] G H G' H') : Same H H' := fun b o q => by
  have := (e.k b (by rw [q]; simp) (by simp)).1
  rw [this]; exact q
theorem Ev.trans {f f1 : List Addr} {G H G1 H1 G2 H2 : Hp} (a : Ev f G H G1 H1) (b : Ev f1 G1 H1 G2 H2) (n : ∀ x ∈ f1, x ∈ f ∨ H x = none) : Ev f G H G2 H2 where
  g := a.g.trans b.g
  h := b.h
  k := fun x hx hf => by
    obtain ⟨e1, e2⟩ := a.k x hx hf
    have h1 : H1 x ≠ none := by rw [e1]; exact hx
    obtain ⟨e3, e4⟩ := b.k x h1 fun q => (n x q).elim hf hx
    exact ⟨e3.trans e1, e4.trans e2⟩
theorem Ev.weak {f f1 : List Addr} {G H G' H' : Hp} (a : Ev f G H G' H') (h : ∀ x ∈ f, x ∈ f1) : Ev f1 G H G' H' :=
  ⟨a.g, a.h, fun x hx hf => a.k x hx fun q => hf (h x q)⟩

section
variable {K : PySem.W.Frag} {G H G' H' : Hp}

theorem SqT.same (e : Same G G') {a : Addr} {xs : List V} (h : SqT K G a xs) : SqT K G' a xs := by
  rcases h with (h | ⟨o, h⟩) | h
  · exact .inl (.inl (e _ _ h))
  · exact .inl (.inr ⟨o, e _ _ h⟩)
  · exact .inr h

theorem isTup (e : Same G G') {a : Addr} {xs : List V} (h : G a = some (.tup xs)) : SqT K G' a xs := SqT.of (e _ _ h)

mutual
/-- own lists stand in the heap and are not shared -/
theorem Rep.there : ∀ {d : D} {v : V} {fp : List Addr}, Rep K G H d v fp → ∀ a ∈ fp, (∃ vs, H a = some (.lst vs)) ∧ G a = none
  | .non, v, fp, h, a, q => by simp only [Rep] at h; rw [h.2] at q; cases q
  | .bl _, v, fp, h, a, q => by simp only [Rep] at h; rw [h.2] at q; cases q
  | .int _, v, fp, h, a, q => by simp only [Rep] at h; rw [h.2] at q; cases q
  | .str _, v, fp, h, a, q => by simp only [Rep] at h; rw [h.2] at q; cases q
  | .rs _, v, fp, h, a, q => by simp only [Rep] at h; rw [h.2] at q; cases q
  | .tup ds, v, fp, h, a, q => by
    simp only [Rep] at h
    obtain ⟨_, _, _, _, h⟩ := h
    exact RepL.there h a q
  | .lst .own ds, v, fp, h, a, q => by
    simp only [Rep] at h
    obtain ⟨b, vs, g, _, h1, h2, h3, rfl⟩ := h
    rcases List.mem_cons.mp q with rfl | q
    · exact ⟨⟨_, h2⟩, h3⟩
    · exact RepL.there h1 a q
  | .lst .frz ds, v, fp, h, a, q => by
    simp only [Rep] at h
    obtain ⟨b, vs, g, _, h1, h2, h3, rfl, _⟩ := h
    cases q
  | .lst .cst ds, v, fp, h, a, q => by
    simp only [Rep] at h
    obtain ⟨b, vs, g, _, h1, h2, h3, rfl, _⟩ := h
    cases q
  | .lst .bor ds, v, fp, h, a, q => by
    simp only [Rep] at h
    obtain ⟨b, vs, g, _, h1, h2, h3, rfl⟩ := h
    cases q
theorem RepL.there : ∀ {ds : List D} {vs : List V} {fp : List Addr}, RepL K G H ds vs fp → ∀ a ∈ fp, (∃ vs, H a = some (.lst vs)) ∧ G a = none
  | [], vs, fp, h, a, q => by simp only [RepL] at h; rw [h.2] at q; cases q
  | d :: ds, vs, fp, h, a, q => by
    simp only [RepL] at h
    obtain ⟨v, r, f1, f2, rfl, h1, h2, rfl⟩ := h
    rcases List.mem_append.mp q with q | q
    · exact Rep.there h1 a q
    · exact RepL.there h2 a q
end

/-- what a representation leans on: the shared part, its own lists, and (with looks) the whole heap -/
structure Kp (b : Bool) (fp : List Addr) (G H G' H' : Hp) : Prop where
  g : Same G G'
  o : ∀ a ∈ fp, H' a = H a ∧ G' a = G a
  b : b = true → Same H H'
theorem Kp.left {b1 b2 : Bool} {f1 f2 : List Addr} (k : Kp (b1 || b2) (f1 ++ f2) G H G' H') : Kp b1 f1 G H G' H' :=
  ⟨k.g, fun a q => k.o a (List.mem_append_left _ q), fun e => k.b (by rw [e]; rfl)⟩
theorem Kp.right {b1 b2 : Bool} {f1 f2 : List Addr} (k : Kp (b1 || b2) (f1 ++ f2) G H G' H') : Kp b2 f2 G H G' H' :=
  ⟨k.g, fun a q => k.o a (List.mem_append_right _ q), fun e => k.b (by rw [e]; simp)⟩

mutual
theorem Rep.kp : ∀ {d : D} {v : V} {fp : List Addr}, Kp (bor d) fp G H G' H' → Rep K G H d v fp → Rep K G' H' d v fp
  | .non, v, fp, k, h => h
  | .bl _, v, fp, k, h => h
  | .int _, v, fp, k, h => h
  | .str _, v, fp, k, h => h
  | .rs _, v, fp, k, h => h
  | .tup ds, v, fp, k, h => by
    simp only [Rep] at h ⊢
    obtain ⟨a, vs, e, h1, h2⟩ := h
    exact ⟨a, vs, e, k.g _ _ h1, RepL.kp (by simpa [bor] using k) h2⟩
  | .lst .own ds, v, fp, k, h => by
    simp only [Rep] at h ⊢
    obtain ⟨b, vs, g, e, h1, h2, h3, rfl⟩ := h
    have k' : Kp (borL ds) g G H G' H' := ⟨k.g, fun a q => k.o a (List.mem_cons_of_mem _ q), fun e => k.b (by simp [bor, e])⟩
    obtain ⟨o1, o2⟩ := k.o b List.mem_cons_self
    exact ⟨b, vs, g, e, RepL.kp k' h1, o1.trans h2, o2.trans h3, rfl⟩
  | .lst .frz ds, v, fp, k, h => by
    simp only [Rep] at h ⊢
    obtain ⟨b, vs, g, e, h1, h2, rfl, rfl, h4⟩ := h
    have k' : Kp (borL ds) [] G H G' H' := ⟨k.g, (fun a q => nomatch q), fun e => k.b (by simp [bor, e])⟩
    exact ⟨b, vs, [], e, RepL.kp k' h1, k.g _ _ h2, rfl, rfl, h4⟩
  | .lst .cst ds, v, fp, k, h => by
    simp only [Rep] at h ⊢
    obtain ⟨b, vs, g, e, h1, h2, rfl, rfl, h4⟩ := h
    have k' : Kp (borL ds) [] G H G' H' := ⟨k.g, (fun a q => nomatch q), fun e => k.b (by simp [bor, e])⟩
    exact ⟨b, vs, [], e, RepL.kp k' h1, k.g.seq h2, rfl, rfl, h4⟩
  | .lst .bor ds, v, fp, k, h => by
    simp only [Rep] at h ⊢
    obtain ⟨b, vs, g, e, h1, h2, rfl, rfl⟩ := h
    have k' : Kp (borL ds) [] G H G' H' := ⟨k.g, (fun a q => nomatch q), fun e => k.b (by simp [bor, e])⟩
    exact ⟨b, vs, [], e, RepL.kp k' h1, k.b (by simp [bor]) _ _ h2, rfl, rfl⟩
theorem RepL.kp : ∀ {ds : List D} {vs : List V} {fp : List Addr}, Kp (borL ds) fp G H G' H' → RepL K G H ds vs fp → RepL K G' H' ds vs fp
  | [], vs, fp, k, h => h
  | d :: ds, vs, fp, k, h => by
    simp only [RepL] at h ⊢
    obtain ⟨v, r, f1, f2, rfl, h1, h2, rfl⟩ := h
    have k : Kp (bor d || borL ds) (f1 ++ f2) G H G' H' := by simpa only [borL] using k
    exact ⟨v, r, f1, f2, rfl, Rep.kp k.left h1, RepL.kp k.right h2, rfl⟩
end

theorem Ev.kp {f fp : List Addr} {b : Bool} (e : Ev f G H G' H') (t : ∀ a ∈ fp, H a ≠ none) (dj : ∀ a ∈ fp, a ∉ f) (hb : b = false ∨ f = []) : Kp b fp G H G' H' :=
  ⟨e.g, fun a q => e.k a (t a q) (dj a q), fun hb' => by
    rcases hb with hb | rfl
    · rw [hb] at hb'; cases hb'
    · exact e.same⟩
theorem Rep.ne {d : D} {v : V} {fp : List Addr} (h : Rep K G H d v fp) : ∀ a ∈ fp, H a ≠ none := fun a q => by
  obtain ⟨⟨_, e⟩, _⟩ := h.there a q
  rw [e]; simp
theorem RepL.ne {d : List D} {v : List V} {fp : List Addr} (h : RepL K G H d v fp) : ∀ a ∈ fp, H a ≠ none := fun a q => by
  obtain ⟨⟨_, e⟩, _⟩ := h.there a q
  rw [e]; simp
theorem Rep.ev {f fp : List Addr} {d : D} {v : V} (h : Rep K G H d v fp) (e : Ev f G H G' H') (dj : ∀ a ∈ fp, a ∉ f) (hb : bor d = false ∨ f = []) : Rep K G' H' d v fp :=
  Rep.kp (e.kp h.ne dj hb) h
theorem RepL.ev {f fp : List Addr} {d : List D} {v : List V} (h : RepL K G H d v fp) (e : Ev f G H G' H') (dj : ∀ a ∈ fp, a ∉ f) (hb : borL d = false ∨ f = []) : RepL K G' H' d v fp :=
  RepL.kp (e.kp h.ne dj hb) h

mutual
/-- shared data has no own lists and no looks -/
theorem Rep.fp_nil : ∀ {d : D} {v : V} {fp : List Addr}, frz d = true → Rep K G H d v fp → fp = []
  | .non, v, fp, k, h => by simp only [Rep] at h; exact h.2
  | .bl _, v, fp, k, h => by simp only [Rep] at h; exact h.2
  | .int _, v, fp, k, h => by simp only [Rep] at h; exact h.2
  | .str _, v, fp, k, h => by simp only [Rep] at h; exact h.2
  | .rs _, v, fp, k, h => by simp only [Rep] at h; exact h.2
  | .tup ds, v, fp, k, h => by
    simp only [Rep] at h
    obtain ⟨a, vs, e, h1, h2⟩ := h
    exact RepL.fp_nil (by simpa [frz] using k) h2
  | .lst .own ds, v, fp, k, h => by simp [frz, Fl.still] at k
  | .lst .frz ds, v, fp, k, h => by
    simp only [Rep] at h
    obtain ⟨b, vs, g, e, h1, h2, _, rfl, _⟩ := h
    rfl
  | .lst .cst ds, v, fp, k, h => by
    simp only [Rep] at h
    obtain ⟨b, vs, g, e, h1, h2, _, rfl, _⟩ := h
    rfl
  | .lst .bor ds, v, fp, k, h => by simp [frz, Fl.still] at k
theorem RepL.fp_nil : ∀ {ds : List D} {vs : List V} {fp : List Addr}, frzL ds = true → RepL K G H ds vs fp → fp = []
  | [], vs, fp, k, h => by simp only [RepL] at h; exact h.2
  | d :: ds, vs, fp, k, h => by
    simp only [RepL] at h
    obtain ⟨v, r, f1, f2, rfl, h1, h2, rfl⟩ := h
    simp only [frzL, Bool.and_eq_true] at k
    rw [Rep.fp_nil k.1 h1, RepL.fp_nil k.2 h2]; rfl
end
mutual
theorem frz_bor : ∀ {d : D}, frz d = true → bor d = false
  | .non, k => rfl
  | .bl _, k => rfl
  | .int _, k => rfl
  | .str _, k => rfl
  | .rs _, k => rfl
  | .tup ds, k => by simp only [bor]; exact frzL_bor (by simpa [frz] using k)
  | .lst f ds, k => by
    simp only [frz, Bool.and_eq_true] at k
    cases f
    · simp [Fl.still] at k
    · simp only [bor, frzL_bor k.2]; decide
    · simp [Fl.still] at k
    · simp only [bor, frzL_bor k.2]; decide
theorem frzL_bor : ∀ {ds : List D}, frzL ds = true → borL ds = false
  | [], k => rfl
  | d :: ds, k => by
    simp only [frzL, Bool.and_eq_true] at k
    simp only [borL, frz_bor k.1, frzL_bor k.2]; rfl
end
mutual
/-- a look at what is represented -/
theorem Rep.look : ∀ {d : D} {v : V} {fp : List Addr}, Same G H → Rep K G H d v fp → Rep K G H (look d) v []
  | .non, v, fp, s, h => by simp only [Rep] at h; simp only [Pur.look, Rep]; exact ⟨h.1, trivial⟩
  | .bl _, v, fp, s, h => by simp only [Rep] at h; simp only [Pur.look, Rep]; exact ⟨h.1, trivial⟩
  | .int _, v, fp, s, h => by simp only [Rep] at h; simp only [Pur.look, Rep]; exact ⟨h.1, trivial⟩
  | .str _, v, fp, s, h => by simp only [Rep] at h; simp only [Pur.look, Rep]; exact ⟨h.1, trivial⟩
  | .rs _, v, fp, s, h => by simp only [Rep] at h; simp only [Pur.look, Rep]; exact ⟨h.1, trivial⟩
  | .tup ds, v, fp, s, h => by
    simp only [Rep] at h
    obtain ⟨a, vs, e, h1, h2⟩ := h
    simp only [Pur.look, Rep]
    exact ⟨a, vs, e, h1, RepL.look s h2⟩
  | .lst .own ds, v, fp, s, h => by
    simp only [Rep] at h
    obtain ⟨b, vs, g, e, h1, h2, h3, rfl⟩ := h
    simp only [Pur.look, Rep]
    exact ⟨b, vs, [], e, RepL.look s h1, h2, rfl, trivial⟩
  | .lst .frz ds, v, fp, s, h => by
    simp only [Rep] at h
    obtain ⟨b, vs, g, e, h1, h2, rfl, rfl, h4⟩ := h
    simp only [Pur.look, Rep]
    exact ⟨b, vs, [], e, RepL.look s h1, h2, rfl, trivial, by rw [lookL_frz h4]; exact h4⟩
  | .lst .cst ds, v, fp, s, h => by
    simp only [Rep] at h
    obtain ⟨b, vs, g, e, h1, h2, rfl, rfl, h4⟩ := h
    simp only [Pur.look, Rep]
    exact ⟨b, vs, [], e, RepL.look s h1, h2, rfl, trivial, by rw [lookL_frz h4]; exact h4⟩
  | .lst .bor ds, v, fp, s, h => by
    simp only [Rep] at h
    obtain ⟨b, vs, g, e, h1, h2, rfl, rfl⟩ := h
    simp only [Pur.look, Rep]
    exact ⟨b, vs, [], e, RepL.look s h1, h2, rfl, trivial⟩
theorem RepL.look : ∀ {ds : List D} {vs : List V} {fp : List Addr}, Same G H → RepL K G H ds vs fp → RepL K G H (lookL ds) vs []
  | [], vs, fp, s, h => by simp only [RepL] at h; simp only [lookL, RepL]; exact ⟨h.1, trivial⟩
  | d :: ds, vs, fp, s, h => by
    simp only [RepL] at h
    obtain ⟨v, r, f1, f2, rfl, h1, h2, rfl⟩ := h
    simp only [lookL, RepL]
    exact ⟨v, r, [], [], rfl, Rep.look s h1, RepL.look s h2, rfl⟩
theorem look_frz : ∀ {d : D}, frz d = true → look d = d
  | .non, k => rfl
  | .bl _, k => rfl
  | .int _, k => rfl
  | .str _, k => rfl
  | .rs _, k => rfl
  | .tup ds, k => by simp only [Pur.look]; rw [lookL_frz (by simpa [frz] using k)]
  | .lst .frz ds, k => by
    simp only [frz, Bool.and_eq_true] at k
    simp only [Pur.look, lookL_frz k.2]
  | .lst .cst ds, k => by
    simp only [frz, Bool.and_eq_true] at k
    simp only [Pur.look, lookL_frz k.2]
  | .lst .own ds, k => by simp [frz, Fl.still] at k
  | .lst .bor ds, k => by simp [frz, Fl.still] at k
theorem lookL_frz : ∀ {ds : List D}, frzL ds = true → lookL ds = ds
  | [], k => rfl
  | d :: ds, k => by
    simp only [frzL, Bool.and_eq_true] at k
    simp only [lookL, look_frz k.1, lookL_frz k.2]
end
end
end Pur
namespace Pur
open PySem L2
section
variable {K : PySem.W.Frag} {G H G' H' : Hp}
mutual
theorem share_frz : ∀ {d : D}, bor d = false → frz (share d) = true
  | .non, k => rfl
  | .bl _, k => rfl
  | .int _, k => rfl
  | .str _, k => rfl
  | .rs _, k => rfl
  | .tup ds, k => by simp only [share, frz]; exact shareL_frz (by simpa [bor] using k)
  | .lst .own ds, k => by simp only [share, frz, Fl.still, Bool.true_and]; exact shareL_frz (by simpa [bor] using k)
  | .lst .frz ds, k => by simp only [share, frz, Fl.still, Bool.true_and]; exact shareL_frz (by simpa [bor] using k)
  | .lst .cst ds, k => by simp only [share, frz, Fl.still, Bool.true_and]; exact shareL_frz (by simpa [bor] using k)
  | .lst .bor ds, k => by simp [bor] at k
theorem shareL_frz : ∀ {ds : List D}, borL ds = false → frzL (shareL ds) = true
  | [], k => rfl
  | d :: ds, k => by
    simp only [borL, Bool.or_eq_false_iff] at k
    simp only [shareL, frzL, share_frz k.1, shareL_frz k.2]; rfl
end
mutual
theorem share_of_frz : ∀ {d : D}, frz d = true → share d = d
  | .non, k => rfl
  | .bl _, k => rfl
  | .int _, k => rfl
  | .str _, k => rfl
  | .rs _, k => rfl
  | .tup ds, k => by simp only [share]; rw [shareL_of_frz (by simpa [frz] using k)]
  | .lst .own ds, k => by simp [frz, Fl.still] at k
  | .lst .bor ds, k => by simp [frz, Fl.still] at k
  | .lst .frz ds, k => by
    simp only [frz, Bool.and_eq_true] at k
    simp only [share, shareL_of_frz k.2]
  | .lst .cst ds, k => by
    simp only [frz, Bool.and_eq_true] at k
    simp only [share, shareL_of_frz k.2]
theorem shareL_of_frz : ∀ {ds : List D}, frzL ds = true → shareL ds = ds
  | [], k => rfl
  | d :: ds, k => by
    simp only [frzL, Bool.and_eq_true] at k
    simp only [shareL, share_of_frz k.1, shareL_of_frz k.2]
end
mutual
/-- own lists become shared ones -/
theorem Rep.share : ∀ {d : D} {v : V} {fp : List Addr}, Same G G' → (∀ a ∈ fp, G' a = H a) → bor d = false → Rep K G H d v fp → Rep K G' H (share d) v []
  | .non, v, fp, s, t, k, h => by simp only [Rep] at h; simp only [Pur.share, Rep]; exact ⟨h.1, trivial⟩
  | .bl _, v, fp, s, t, k, h => by simp only [Rep] at h; simp only [Pur.share, Rep]; exact ⟨h.1, trivial⟩
  | .int _, v, fp, s, t, k, h => by simp only [Rep] at h; simp only [Pur.share, Rep]; exact ⟨h.1, trivial⟩
  | .str _, v, fp, s, t, k, h => by simp only [Rep] at h; simp only [Pur.share, Rep]; exact ⟨h.1, trivial⟩
  | .rs _, v, fp, s, t, k, h => by simp only [Rep] at h; simp only [Pur.share, Rep]; exact ⟨h.1, trivial⟩
  | .tup ds, v, fp, s, t, k, h => by
    simp only [Rep] at h
    obtain ⟨a, vs, e, h1, h2⟩ := h
    simp only [Pur.share, Rep]
    exact ⟨a, vs, e, s _ _ h1, RepL.share s t (by simpa [bor] using k) h2⟩
  | .lst .own ds, v, fp, s, t, k, h => by
    simp only [Rep] at h
    obtain ⟨b, vs, g, e, h1, h2, h3, rfl⟩ := h
    have kb : borL ds = false := by simpa [bor] using k
    simp only [Pur.share, Rep]
    exact ⟨b, vs, [], e, RepL.share s (fun a q => t a (List.mem_cons_of_mem _ q)) kb h1, (t b List.mem_cons_self).trans h2, rfl, trivial, shareL_frz kb⟩
  | .lst .frz ds, v, fp, s, t, k, h => by
    simp only [Rep] at h
    obtain ⟨b, vs, g, e, h1, h2, rfl, rfl, h4⟩ := h
    have kb : borL ds = false := by simpa [bor] using k
    simp only [Pur.share, Rep]
    exact ⟨b, vs, [], e, RepL.share s (fun a (q : a ∈ ([] : List Addr)) => nomatch q) kb h1, s _ _ h2, rfl, trivial, shareL_frz kb⟩
  | .lst .cst ds, v, fp, s, t, k, h => by
    simp only [Rep] at h
    obtain ⟨b, vs, g, e, h1, h2, rfl, rfl, h4⟩ := h
    have kb : borL ds = false := by simpa [bor] using k
    simp only [Pur.share, Rep]
    exact ⟨b, vs, [], e, RepL.share s (fun a (q : a ∈ ([] : List Addr)) => nomatch q) kb h1, s.seq h2, rfl, trivial, shareL_frz kb⟩
  | .lst .bor ds, v, fp, s, t, k, h => by simp [bor] at k
theorem RepL.share : ∀ {ds : List D} {vs : List V} {fp : List Addr}, Same G G' → (∀ a ∈ fp, G' a = H a) → borL ds = false → RepL K G H ds vs fp → RepL K G' H (shareL ds) vs []
  | [], vs, fp, s, t, k, h => by simp only [RepL] at h; simp only [shareL, RepL]; exact ⟨h.1, trivial⟩
  | d :: ds, vs, fp, s, t, k, h => by
    simp only [RepL] at h
    obtain ⟨v, r, f1, f2, rfl, h1, h2, rfl⟩ := h
    simp only [borL, Bool.or_eq_false_iff] at k
    simp only [shareL, RepL]
    exact ⟨v, r, [], [], rfl, Rep.share s (fun a q => t a (List.mem_append_left _ q)) k.1 h1, RepL.share s (fun a q => t a (List.mem_append_right _ q)) k.2 h2, rfl⟩
end
/-- what stands at fp is shared from now on -/
def shr (G H : Hp) (fp : List Addr) : Hp := fun a => if a ∈ fp then H a else G a
theorem shr_in {fp : List Addr} {a : Addr} (h : a ∈ fp) : shr G H fp a = H a := by unfold shr; rw [if_pos h]
theorem shr_out {fp : List Addr} {a : Addr} (h : a ∉ fp) : shr G H fp a = G a := by unfold shr; rw [if_neg h]
theorem shr_same {fp : List Addr} (t : ∀ a ∈ fp, G a = none) : Same G (shr G H fp) := fun b o q => by
  have : b ∉ fp := fun m => by rw [t b m] at q; cases q
  rw [shr_out this]; exact q
theorem shr_ev {fp : List Addr} (s : Same G H) (t : ∀ a ∈ fp, G a = none) : Ev fp G H (shr G H fp) H := by
  refine ⟨shr_same t, fun b o q => ?_, fun a _ hf => ⟨rfl, shr_out hf⟩⟩
  by_cases m : b ∈ fp
  · rw [shr_in m] at q; exact q
  · rw [shr_out m] at q; exact s b o q
end
end Pur

/-! Pur2: environments. -/
namespace Pur
open PySem L2

abbrev En := List (Option D)

section
variable (K : PySem.W.Frag) (G H : Hp)
def EnvR : En → St → List Addr → Prop
  | [], σ, fp => σ = [] ∧ fp = []
  | none :: ρ, σ, fp => ∃ x r, σ = x :: r ∧ EnvR ρ r fp
  | some d :: ρ, σ, fp => ∃ v r f1 f2, σ = some v :: r ∧ bor d = false ∧ Rep K G H d v f1 ∧ EnvR ρ r f2 ∧ fp = f1 ++ f2
def EnvP (ρ : En) (σ : St) (fp : List Addr) : Prop := ∃ f, EnvR K G H ρ σ f ∧ f.Perm fp
end

section
variable {K : PySem.W.Frag} {G H G' H' : Hp}
theorem EnvR.length : ∀ {ρ : En} {σ : St} {fp : List Addr}, EnvR K G H ρ σ fp → ρ.length = σ.length
  | [], σ, fp, h => by simp only [EnvR] at h; rw [h.1]; rfl
  | none :: ρ, σ, fp, h => by
    simp only [EnvR] at h
    obtain ⟨x, r, rfl, h⟩ := h
    simp [EnvR.length h]
  | some d :: ρ, σ, fp, h => by
    simp only [EnvR] at h
    obtain ⟨v, r, f1, f2, rfl, _, _, h, _⟩ := h
    simp [EnvR.length h]
theorem EnvR.there : ∀ {ρ : En} {σ : St} {fp : List Addr}, EnvR K G H ρ σ fp → ∀ a ∈ fp, (∃ vs, H a = some (.lst vs)) ∧ G a = none
  | [], σ, fp, h, a, q => by simp only [EnvR] at h; rw [h.2] at q; cases q
  | none :: ρ, σ, fp, h, a, q => by
    simp only [EnvR] at h
    obtain ⟨x, r, rfl, h⟩ := h
    exact EnvR.there h a q
  | some d :: ρ, σ, fp, h, a, q => by
    simp only [EnvR] at h
    obtain ⟨v, r, f1, f2, rfl, _, h1, h2, rfl⟩ := h
    rcases List.mem_append.mp q with q | q
    · exact h1.there a q
    · exact EnvR.there h2 a q
theorem EnvR.ev : ∀ {ρ : En} {σ : St} {f fp : List Addr}, EnvR K G H ρ σ fp → Ev f G H G' H' → (∀ a ∈ fp, a ∉ f) → EnvR K G' H' ρ σ fp
  | [], σ, f, fp, h, e, dj => h
  | none :: ρ, σ, f, fp, h, e, dj => by
    simp only [EnvR] at h ⊢
    obtain ⟨x, r, rfl, h⟩ := h
    exact ⟨x, r, rfl, EnvR.ev h e dj⟩
  | some d :: ρ, σ, f, fp, h, e, dj => by
    simp only [EnvR] at h ⊢
    obtain ⟨v, r, f1, f2, rfl, hb, h1, h2, rfl⟩ := h
    exact ⟨v, r, f1, f2, rfl, hb, h1.ev e (fun a q => dj a (List.mem_append_left _ q)) (.inl hb), EnvR.ev h2 e (fun a q => dj a (List.mem_append_right _ q)), rfl⟩
/-- a slot's value taken out -/
theorem EnvR.take : ∀ {ρ : En} {σ : St} {fp : List Addr} {i : Nat} {d : D}, EnvR K G H ρ σ fp → ρ[i]? = some (some d) →
    ∃ v f1 f2, σ[i]? = some (some v) ∧ bor d = false ∧ Rep K G H d v f1 ∧ EnvR K G H (ρ.set i none) σ f2 ∧ (f1 ++ f2).Perm fp
  | [], σ, fp, i, d, h, e => by simp at e
  | none :: ρ, σ, fp, i, d, h, e => by
    simp only [EnvR] at h
    obtain ⟨x, r, rfl, h⟩ := h
    cases i with
    | zero => simp at e
    | succ i =>
      obtain ⟨v, f1, f2, e1, b1, r1, r2, p⟩ := EnvR.take h (i := i) (d := d) (by simpa using e)
      exact ⟨v, f1, f2, by simpa using e1, b1, r1, ⟨x, r, rfl, r2⟩, p⟩
  | some d0 :: ρ, σ, fp, i, d, h, e => by
    simp only [EnvR] at h
    obtain ⟨v, r, f1, f2, rfl, b0, h1, h2, rfl⟩ := h
    cases i with
    | zero =>
      simp at e
      subst e
      exact ⟨v, f1, f2, rfl, b0, h1, ⟨_, r, rfl, h2⟩, .refl _⟩
    | succ i =>
      obtain ⟨u, g1, g2, e1, b1, r1, r2, p⟩ := EnvR.take h2 (i := i) (d := d) (by simpa using e)
      refine ⟨u, g1, f1 ++ g2, by simpa using e1, b1, r1, ⟨v, r, f1, g2, rfl, b0, h1, r2, rfl⟩, ?_⟩
      exact (List.perm_append_comm_assoc g1 f1 g2).trans (List.Perm.append_left f1 p)
/-- a slot's value put, where none is known -/
theorem EnvR.put : ∀ {ρ : En} {σ : St} {fp f1 : List Addr} {i : Nat} {d : D} {v : V}, EnvR K G H ρ σ fp → ρ[i]? = some none → bor d = false → Rep K G H d v f1 →
    ∃ f, EnvR K G H (ρ.set i (some d)) (σ.set i (some v)) f ∧ f.Perm (f1 ++ fp)
  | [], σ, fp, f1, i, d, v, h, e, _, _ => by simp at e
  | none :: ρ, σ, fp, f1, i, d, v, h, e, hb, hr => by
    simp only [EnvR] at h
    obtain ⟨x, r, rfl, h⟩ := h
    cases i with
    | zero => exact ⟨f1 ++ fp, ⟨v, r, f1, fp, rfl, hb, hr, h, rfl⟩, .refl _⟩
    | succ i =>
      obtain ⟨f, q, p⟩ := EnvR.put h (i := i) (by simpa using e) hb hr
      exact ⟨f, ⟨x, _, rfl, q⟩, p⟩
  | some d0 :: ρ, σ, fp, f1, i, d, v, h, e, hb, hr => by
    simp only [EnvR] at h
    obtain ⟨u, r, g1, g2, rfl, b0, h1, h2, rfl⟩ := h
    cases i with
    | zero => simp at e
    | succ i =>
      obtain ⟨f, q, p⟩ := EnvR.put h2 (i := i) (by simpa using e) hb hr
      refine ⟨g1 ++ f, ⟨u, _, g1, f, rfl, b0, h1, q, rfl⟩, ?_⟩
      exact (List.Perm.append_left g1 p).trans (List.perm_append_comm_assoc g1 f1 g2)
/-- what stands in a slot of which nothing is known does not matter -/
theorem EnvR.any : ∀ {ρ : En} {σ : St} {fp : List Addr} {i : Nat} {x : Option V}, EnvR K G H ρ σ fp → ρ[i]? = some none → EnvR K G H ρ (σ.set i x) fp
  | [], σ, fp, i, x, h, e => by simp at e
  | none :: ρ, σ, fp, i, x, h, e => by
    simp only [EnvR] at h
    obtain ⟨y, r, rfl, h⟩ := h
    cases i with
    | zero => exact ⟨x, r, rfl, h⟩
    | succ i => exact ⟨y, _, rfl, EnvR.any h (by simpa using e)⟩
  | some d0 :: ρ, σ, fp, i, x, h, e => by
    simp only [EnvR] at h
    obtain ⟨u, r, g1, g2, rfl, b0, h1, h2, rfl⟩ := h
    cases i with
    | zero => simp at e
    | succ i => exact ⟨u, _, g1, g2, rfl, b0, h1, EnvR.any h2 (by simpa using e), rfl⟩

variable {ρ : En} {σ : St} {fp f f1 f2 : List Addr} {i : Nat} {d : D} {v : V}
theorem EnvP.length (h : EnvP K G H ρ σ fp) : ρ.length = σ.length := let ⟨_, h, _⟩ := h; h.length
theorem EnvP.there (h : EnvP K G H ρ σ fp) : ∀ a ∈ fp, (∃ vs, H a = some (.lst vs)) ∧ G a = none := fun a q => by
  obtain ⟨f, h, p⟩ := h
  exact h.there a (p.mem_iff.mpr q)
theorem EnvP.ne (h : EnvP K G H ρ σ fp) : ∀ a ∈ fp, H a ≠ none := fun a q => by
  obtain ⟨⟨_, e⟩, _⟩ := h.there a q
  rw [e]; simp
theorem EnvP.ev (h : EnvP K G H ρ σ fp) (e : Ev f G H G' H') (dj : ∀ a ∈ fp, a ∉ f) : EnvP K G' H' ρ σ fp := by
  obtain ⟨g, h, p⟩ := h
  exact ⟨g, h.ev e fun a q => dj a (p.mem_iff.mp q), p⟩
theorem EnvP.perm (h : EnvP K G H ρ σ f) (p : f.Perm fp) : EnvP K G H ρ σ fp := let ⟨g, h, q⟩ := h; ⟨g, h, q.trans p⟩
theorem EnvP.take (h : EnvP K G H ρ σ fp) (e : ρ[i]? = some (some d)) :
    ∃ v f1 f2, σ[i]? = some (some v) ∧ bor d = false ∧ Rep K G H d v f1 ∧ EnvP K G H (ρ.set i none) σ f2 ∧ (f1 ++ f2).Perm fp := by
  obtain ⟨g, h, p⟩ := h
  obtain ⟨v, f1, f2, h1, h2, h3, h4, q⟩ := h.take e
  exact ⟨v, f1, f2, h1, h2, h3, ⟨f2, h4, .refl _⟩, q.trans p⟩
theorem EnvP.put (h : EnvP K G H ρ σ fp) (e : ρ[i]? = some none) (hb : bor d = false) (hr : Rep K G H d v f1) : EnvP K G H (ρ.set i (some d)) (σ.set i (some v)) (f1 ++ fp) := by
  obtain ⟨g, h, p⟩ := h
  obtain ⟨f, h1, q⟩ := h.put e hb hr
  exact ⟨f, h1, q.trans (List.Perm.append_left f1 p)⟩
theorem set_self {α : Type} : ∀ {l : List α} {i : Nat} {x : α}, l[i]? = some x → l.set i x = l
  | [], _, _, h => by simp at h
  | a :: l, 0, x, h => by simp at h; subst h; rfl
  | a :: l, i + 1, x, h => by
    have := set_self (l := l) (i := i) (x := x) (by simpa using h)
    simp [this]
/-- put back where it stands -/
theorem EnvP.back (h : EnvP K G H ρ σ fp) (e : ρ[i]? = some none) (es : σ[i]? = some (some v)) (hb : bor d = false) (hr : Rep K G H d v f1) : EnvP K G H (ρ.set i (some d)) σ (f1 ++ fp) := by
  have := h.put e hb hr
  rwa [set_self es] at this
theorem EnvP.any (h : EnvP K G H ρ σ fp) (e : ρ[i]? = some none) (x : Option V) : EnvP K G H ρ (σ.set i x) fp := let ⟨g, h, p⟩ := h; ⟨g, h.any e, p⟩
/-- a slot forgotten -/
theorem EnvP.drop (h : EnvP K G H ρ σ fp) (i : Nat) : ∃ f1 f2, EnvP K G H (ρ.set i none) σ f2 ∧ (f1 ++ f2).Perm fp := by
  cases e : ρ[i]? with
  | none =>
    have : ρ.set i none = ρ := List.set_eq_of_length_le (List.getElem?_eq_none_iff.mp e)
    exact ⟨[], fp, by rw [this]; exact h, .refl _⟩
  | some x =>
    cases x with
    | none => exact ⟨[], fp, by rw [set_self e]; exact h, .refl _⟩
    | some d =>
      obtain ⟨v, f1, f2, _, _, _, h, p⟩ := h.take e
      exact ⟨f1, f2, h, p⟩
theorem get_set_none (h : i < ρ.length) (x : Option D) : (ρ.set i x)[i]? = some x := by simp [h]
/-- a slot overwritten -/
theorem EnvP.over (h : EnvP K G H ρ σ fp) (hi : i < ρ.length) (hb : bor d = false) (hr : Rep K G H d v f1) : ∃ f0 f2, EnvP K G H (ρ.set i (some d)) (σ.set i (some v)) (f1 ++ f2) ∧ (f0 ++ f2).Perm fp := by
  obtain ⟨f0, f2, h2, p⟩ := h.drop i
  refine ⟨f0, f2, ?_, p⟩
  have := h2.put (get_set_none hi none) hb hr
  rwa [List.set_set] at this
/-- several slots forgotten, in both -/
def wipeD (ρ : En) : List Nat → En
  | [] => ρ
  | v :: vs => (wipeD ρ vs).set v none
theorem wipeD_length (ρ : En) : ∀ vs : List Nat, (wipeD ρ vs).length = ρ.length
  | [] => rfl
  | v :: vs => by unfold wipeD; rw [List.length_set, wipeD_length ρ vs]
theorem EnvP.wipeD (h : EnvP K G H ρ σ fp) : ∀ vs : List Nat, ∃ f1 f2, EnvP K G H (wipeD ρ vs) σ f2 ∧ (f1 ++ f2).Perm fp
  | [] => ⟨[], fp, h, .refl _⟩
  | v :: vs => by
    obtain ⟨f1, f2, h1, p⟩ := EnvP.wipeD h vs
    obtain ⟨g1, g2, h2, q⟩ := h1.drop v
    refine ⟨f1 ++ g1, g2, h2, ?_⟩
    rw [List.append_assoc]
    exact (List.Perm.append_left f1 q).trans p
theorem wipeD_none {ρ : En} : ∀ {vs : List Nat} {i : Nat}, i ∈ vs → i < ρ.length → (Pur.wipeD ρ vs)[i]? = some none
  | [], i, h, _ => by cases h
  | v :: vs, i, h, hl => by
    unfold Pur.wipeD
    by_cases e : v = i
    · subst e
      simp [wipeD_length, hl]
    · rw [List.getElem?_set_ne e]
      exact wipeD_none ((List.mem_cons.mp h).elim (fun q => absurd q.symm e) id) hl
theorem EnvP.wipeS (h : EnvP K G H (Pur.wipeD ρ vs0) σ fp) : ∀ vs : List Nat, (∀ v ∈ vs, v ∈ vs0) → EnvP K G H (Pur.wipeD ρ vs0) (wipe σ vs) fp
  | [], _ => h
  | v :: vs, hv => by
    have ih := EnvP.wipeS h vs fun w hw => hv w (List.mem_cons_of_mem _ hw)
    unfold wipe
    by_cases hl : v < ρ.length
    · exact ih.any (wipeD_none (hv v List.mem_cons_self) hl) none
    · have e : (wipe σ vs).set v none = wipe σ vs := List.set_eq_of_length_le (by rw [wipe_length, ← h.length, wipeD_length]; omega)
      rw [e]; exact ih
end
end Pur

/-! Pur3: the small syntax and what it means. -/
namespace Pur
open PySem L2

/-- how a name is read: looked at; moved out; shared from now on -/
inductive Md where
  | bo | mv | fz
  deriving DecidableEq
inductive Bo where
  | add | sub | mul | fdiv | mod | pow
  deriving DecidableEq
inductive Co where
  | lt | le | gt | ge | eq | ne | is | isnot | in_ | notin
  deriving DecidableEq
inductive Bi where
  | len | abs | int | all | any | sum | max | min | sorted | list | tuple | repr
  deriving DecidableEq
/-- methods of lists that change nothing -/
inductive Me where
  | index | count
  deriving DecidableEq
/-- targets -/
inductive T where
  | nm (i : Nat) | tp (ts : T) | nil | cons (t r : T)
inductive E where
  | v (m : Md) (i : Nat)
  | lend (i : Nat)
  | int (i : Int) | bl (b : Bool) | non | str (s : Str)
  | glob (k : Nat)
  | bin (o : Bo) (a b : E)
  | neg (a : E)
  | cmp (o : Co) (a b : E)
  | chain (o o' : Co) (a b c : E)
  | and_ (es : E) | or_ (es : E) | not_ (a : E)
  | ife (c a b : E)
  | tup (es : E) | lst (es : E)
  | nil | cons (a es : E)
  | idx (a i : E)
  | slc (a lo hi : E) | abs_
  | bi (f : Bi) (es : E)
  | isi (a : E) (n : String)
  | fc (k : Nat) (es : E)
  | lc (elt : E) (t : T) (it c : E) (vs : List Nat)
  | lc2 (elt : E) (t : T) (it : E) (t2 : T) (it2 c : E) (vs vs2 : List Nat)
  | uniq (key : E) (t : T) (it : E) (vs : List Nat)
  | pop (i : Nat) (k : E)
  | rng (a : E) | rng2 (a b : E) | enum (a : E) | zip (a b : E)
  /-- shared from its birth on -/
  | sh (a : E)
  | meth (m : Me) (a x : E)
  /-- list(range(a)) -/
  | lrg (a : E)
  /-- sorted({key: True for t in it}), ints -/
  | usort (key : E) (t : T) (it : E) (vs : List Nat)
inductive S where
  | nil | cons (s r : S)
  | pass
  | asg (t : T) (e : E)
  | par (i j : Nat) (a b : E)
  | par3 (i j k : Nat) (a b c : E)
  | ex (e : E)
  | app (i : Nat) (e : E) | ext (i : Nat) (e : E)
  | set1 (i : Nat) (k e : E) | set2 (i : Nat) (k1 k2 e : E) | pop2 (i : Nat) (k1 k2 : E)
  | aug (i : Nat) (o : Bo) (e : E)
  | ifs (c : E) (a b : S)
  | for_ (t : T) (it : E) (b : S) (wp : List Nat)
  | whl (c : E) (b : S) (wp : List Nat)
  | ret (e : E) | retn
  | brk | cnt
  | no
structure Fi where
  name : Str
  np : Nat
  N : List Str
  body : S
/-- the defs; the constants -/
structure Pg where
  fs : List Fi
  gs : List (Str × D)

/-! ### values -/
mutual
/-- data of the shapes that the rules for == serve, at most n deep -/
def lay : Nat → D → Bool
  | _, .non => true
  | _, .bl _ => true
  | _, .int _ => true
  | _, .str s => PyData.canLay0 (.str s)
  | _, .rs _ => false
  | 0, .tup _ => false
  | n + 1, .tup xs => layL n xs
  | 0, .lst _ _ => false
  | n + 1, .lst _ xs => layL n xs
def layL : Nat → List D → Bool
  | _, [] => true
  | n, d :: ds => lay n d && layL n ds
end
def eqD (x y : D) : Bool := PyData.eqv (py x) (py y)
mutual
def pdEq : PyData → PyData → Bool
  | .none, .none => true
  | .bool a, .bool b => a == b
  | .int i, .int j => i == j
  | .str x, .str y => x == y
  | .list xs, .list ys => pdEqL xs ys
  | .tuple xs, .tuple ys => pdEqL xs ys
  | _, _ => false
def pdEqL : List PyData → List PyData → Bool
  | [], [] => true
  | x :: xs, y :: ys => pdEq x y && pdEqL xs ys
  | _, _ => false
end
def eqS : D → D → Option Bool
  | .rs a, .rs b => if pdEq a b then some true else none
  | x, y => if lay 60 x && lay 60 y then some (eqD x y) else none
def small64 (i : Int) : Bool := decide (-(2 ^ 64) < i ∧ i < 2 ^ 64)
def mulOk (i j : Int) : Bool := small64 i || small64 j || decide (i.natAbs.log2 + j.natAbs.log2 < 1000000)
def divOk (j : Int) : Bool := decide (j ≠ 0 ∧ j.natAbs < 1073741824) || decide (0 < j ∧ j.natAbs.log2 < 9000)
def addS : D → D → Option D
  | .int i, .int j => some (.int (i + j))
  | .str s, .str t => if s.length + t.length ≤ sizeLine then some (.str (s ++ t)) else none
  | .tup xs, .tup ys => if xs.length + ys.length ≤ sizeLine then some (.tup (xs ++ ys)) else none
  | .lst f xs, .lst g ys => if f ≠ .cst ∧ g ≠ .cst ∧ borL xs = false ∧ borL ys = false ∧ xs.length + ys.length ≤ sizeLine then some (.lst .own (xs ++ ys)) else none
  | _, _ => none
def binS : Bo → D → D → Option D
  | .add, x, y => addS x y
  | .sub, .int i, .int j => some (.int (i - j))
  | .mul, .int i, .int j => if mulOk i j then some (.int (i * j)) else none
  | .fdiv, .int i, .int j => if divOk j then some (.int (i.fdiv j)) else none
  | .mod, .int i, .int j => if j = 0 then none else some (.int (i.fmod j))
  | .pow, .int i, .int j => if 0 ≤ j ∧ j ≤ 1000000 ∧ i.natAbs < 2 ^ 64 then some (.int (i ^ j.toNat)) else none
  | _, _, _ => none
def isNon : D → Bool
  | .non => true
  | _ => false
def cmpS : Co → D → D → Option D
  | .lt, .int i, .int j => some (.bl (decide (i < j)))
  | .le, .int i, .int j => some (.bl (decide (i ≤ j)))
  | .gt, .int i, .int j => some (.bl (decide (j < i)))
  | .ge, .int i, .int j => some (.bl (decide (j ≤ i)))
  | .eq, x, y => (eqS x y).map .bl
  | .ne, x, y => (eqS x y).map fun b => .bl (!b)
  | .is, x, .non => some (.bl (isNon x))
  | .isnot, x, .non => some (.bl (!isNon x))
  | .is, .bl a, .bl b => some (.bl (decide (a = b)))
  | .isnot, .bl a, .bl b => some (.bl (!decide (a = b)))
  | .in_, x, .lst _ ys => if lay 60 x && layL 59 ys then some (.bl (ys.any fun z => eqD z x)) else none
  | .notin, x, .lst _ ys => if lay 60 x && layL 59 ys then some (.bl (!ys.any fun z => eqD z x)) else none
  | .in_, x, .tup ys => if lay 60 x && layL 59 ys then some (.bl (ys.any fun z => eqD z x)) else none
  | .notin, x, .tup ys => if lay 60 x && layL 59 ys then some (.bl (!ys.any fun z => eqD z x)) else none
  | _, _, _ => none
def intsOf : List D → Option (List Int)
  | [] => some []
  | .int i :: r => (intsOf r).map (i :: ·)
  | _ => none
/-- the first place of an equal one -/
def idxOf (x : D) : List D → Option Nat
  | [] => none
  | z :: zs => if eqD z x then some 0 else (idxOf x zs).map (· + 1)
def meS : Me → D → D → Option D
  | .count, .lst _ xs, .int k => (intsOf xs).map fun ns => .int (ns.count k : Nat)
  | .index, .lst _ xs, y => if lay 60 y && layL 59 xs then (idxOf y xs).map fun j => .int (j : Nat) else none
  | _, _, _ => none
def blsOf : List D → Option (List Bool)
  | [] => some []
  | .bl i :: r => (blsOf r).map (i :: ·)
  | _ => none
def maxL : Int → List Int → Int
  | m, [] => m
  | m, x :: xs => maxL (if m < x then x else m) xs
def minL : Int → List Int → Int
  | m, [] => m
  | m, x :: xs => minL (if x < m then x else m) xs
def ins (x : Int) : List Int → List Int
  | [] => [x]
  | y :: ys => if x ≤ y then x :: y :: ys else y :: ins x ys
def isort : List Int → List Int
  | [] => []
  | x :: xs => ins x (isort xs)
mutual
/-- more than the length of what repr gives; too much where it is not known -/
def rsz : D → Nat
  | .non => 5
  | .bl _ => 6
  | .int i => if i.natAbs < 10 ^ 60 then 70 else 100000000
  | .str s => 12 * s.length + 3
  | .rs _ => 100000000
  | .tup xs => 4 + rszL xs
  | .lst _ xs => 4 + rszL xs
def rszL : List D → Nat
  | [] => 0
  | d :: ds => rsz d + 2 + rszL ds
end
def lenS : List D → Option D
  | [.lst _ xs] => some (.int xs.length)
  | [.tup xs] => some (.int xs.length)
  | [.str s] => if s.length ≤ sizeLine then some (.int s.length) else none
  | _ => none
def absS : List D → Option D
  | [.int i] => some (.int (if i < 0 then -i else i))
  | _ => none
def intS : List D → Option D
  | [.int i] => some (.int i)
  | [.bl b] => some (.int (if b then 1 else 0))
  | _ => none
def allS : List D → Option D
  | [.lst _ xs] => (blsOf xs).map fun bs => .bl (bs.all id)
  | _ => none
def anyS : List D → Option D
  | [.lst _ xs] => (blsOf xs).map fun bs => .bl (bs.any id)
  | _ => none
def sumS : List D → Option D
  | [.lst _ xs] => (intsOf xs).map fun ns => .int ns.sum
  | _ => none
def maxS : List D → Option D
  | [.lst _ xs] => match intsOf xs with
    | some (n :: ns) => some (.int (maxL n ns))
    | _ => none
  | [.int i, .int j] => some (.int (if j > i then j else i))
  | _ => none
def minS : List D → Option D
  | [.lst _ xs] => match intsOf xs with
    | some (n :: ns) => some (.int (minL n ns))
    | _ => none
  | [.int i, .int j] => some (.int (if j < i then j else i))
  | _ => none
def sortS : List D → Option D
  | [.lst _ xs] => (intsOf xs).map fun ns => .lst .own ((isort ns).map .int)
  | _ => none
def listS : List D → Option D
  | [.lst _ xs] => if borL xs then none else some (.lst .own xs)
  | [.tup xs] => if borL xs then none else some (.lst .own xs)
  | _ => none
def tupS : List D → Option D
  | [.lst _ xs] => if borL xs then none else some (.tup xs)
  | [.tup xs] => some (.tup xs)
  | _ => none
def reprS : List D → Option D
  | [d] => if lay 60 d && decide (rsz d ≤ 1000000) then some (.rs (py d)) else none
  | _ => none
def biS : Bi → List D → Option D
  | .len => lenS | .abs => absS | .int => intS | .all => allS | .any => anyS | .sum => sumS | .max => maxS | .min => minS | .sorted => sortS | .list => listS | .tuple => tupS | .repr => reprS
def isiS (d : D) (n : String) : Option Bool :=
  if n = "int" then some (match d with | .int _ => true | .bl _ => true | _ => false)
  else if n = "bool" then some (match d with | .bl _ => true | _ => false)
  else if n = "str" then some (match d with | .str _ => true | .rs _ => true | _ => false)
  else if n = "tuple" then some (match d with | .tup _ => true | _ => false)
  else if n = "list" then some (match d with | .lst _ _ => true | _ => false)
  else none
def idxS : D → D → Option D
  | .lst _ xs, .int i => atI xs i
  | .tup xs, .int i => atI xs i
  | .str z, .int i => if z.length ≤ sizeLine then (atI z.cps.toList i).map fun c => .str ⟨#[c]⟩ else none
  | _, _ => none
def bndS : Option D → Option (Option Int)
  | none => some none
  | some (.int i) => some (some i)
  | _ => none
def cutD {α : Type} (xs : List α) (lo hi : Option Int) : List α := (xs.drop (HT.sIx xs.length 0 lo)).take (HT.sIx xs.length xs.length hi - HT.sIx xs.length 0 lo)
def slcS : D → Option Int → Option Int → Option D
  | .lst _ xs, lo, hi => if borL xs then none else some (.lst .own (cutD xs lo hi))
  | .tup xs, lo, hi => some (.tup (cutD xs lo hi))
  | _, _, _ => none
/-- the items of what is walked -/
def seqOf : D → Option (List D)
  | .lst _ xs => some xs
  | .tup xs => some xs
  | _ => none
def rangeD (lo : Int) (n : Nat) : List D := (List.range n).map fun k => .int (lo + (k : Nat))

/-! ### targets -/
mutual
def bindT : T → D → En → Option En
  | .nm i, d, ρ => if i < ρ.length ∧ bor d = false then some (ρ.set i (some d)) else none
  | .tp ts, .tup ds, ρ => bindTs ts ds ρ
  | _, _, _ => none
def bindTs : T → List D → En → Option En
  | .nil, [], ρ => some ρ
  | .cons t r, d :: ds, ρ => (bindT t d ρ).bind fun ρ1 => bindTs r ds ρ1
  | _, _, _ => none
end
/-- the slots of a target -/
def tgs : T → List Nat
  | .nm i => [i]
  | .tp ts => tgs ts
  | .nil => []
  | .cons t r => tgs t ++ tgs r

/-- nothing that stands is touched by it -/
def isP : E → Bool
  | .v m _ => decide (m = .bo)
  | .lend _ => false
  | .int _ => true
  | .bl _ => true
  | .non => true
  | .str _ => true
  | .glob _ => true
  | .bin _ a b => isP a && isP b
  | .neg a => isP a
  | .cmp _ a b => isP a && isP b
  | .chain _ _ a b c => isP a && isP b && isP c
  | .and_ es => isP es
  | .or_ es => isP es
  | .not_ a => isP a
  | .ife c a b => isP c && isP a && isP b
  | .tup es => isP es
  | .lst es => isP es
  | .nil => true
  | .cons a es => isP a && isP es
  | .idx a i => isP a && isP i
  | .slc a lo hi => isP a && isP lo && isP hi
  | .abs_ => true
  | .bi _ es => isP es
  | .isi a _ => isP a
  | .fc _ es => isP es
  | .lc elt _ it c _ => isP elt && isP it && isP c
  | .lc2 elt _ it _ it2 c _ _ => isP elt && isP it && isP it2 && isP c
  | .uniq key _ it _ => isP key && isP it
  | .pop _ _ => false
  | .rng a => isP a
  | .rng2 a b => isP a && isP b
  | .enum a => isP a
  | .zip a b => isP a && isP b
  | .sh a => isP a
  | .meth _ a b => isP a && isP b
  | .lrg a => isP a
  | .usort key _ it _ => isP key && isP it

/-- which arguments are lent -/
def lendOf : E → Option Nat
  | .lend i => some i
  | _ => none
def lends : E → List (Option Nat)
  | .cons a es => lendOf a :: lends es
  | _ => []
/-- the lent ones taken out -/
def fillL : List (Option Nat) → List D → En → Option (List D × En)
  | [], [], ρ => some ([], ρ)
  | none :: ls, d :: ds, ρ => match fillL ls ds ρ with
    | some (ds', ρ') => some (d :: ds', ρ')
    | none => none
  | some i :: ls, _ :: ds, ρ => match ρ[i]? with
    | some (some d) => match fillL ls ds (if frz d then ρ else ρ.set i none) with
      | some (ds', ρ') => some (d :: ds', ρ')
      | none => none
    | _ => none
  | _, _, _ => none
/-- .. and given back -/
def giveL : List (Option Nat) → List D → List D → En → Option En
  | [], [], [], ρ => some ρ
  | none :: ls, _ :: ds, _ :: fs, ρ => giveL ls ds fs ρ
  | some i :: ls, d :: ds, f :: fs, ρ => match giveL ls ds fs ρ with
    | some ρ' => if frz d then some ρ' else if i < ρ'.length ∧ bor f = false then some (ρ'.set i (some f)) else none
    | none => none
  | _, _, _, _ => none
def restore (ρ1 : En) : List Nat → En → En
  | [], ρ => ρ
  | i :: vs, ρ => match ρ1[i]? with
    | some (some d) => if frz d then (restore ρ1 vs ρ).set i (some d) else restore ρ1 vs ρ
    | _ => restore ρ1 vs ρ
def lcL (f : D → En → Option (List D × En)) : List D → En → Option (List D × En)
  | [], ρ => some ([], ρ)
  | x :: xs, ρ => match f x ρ with
    | none => none
    | some (o, ρ1) => match lcL f xs ρ1 with
      | none => none
      | some (ys, ρ2) => some (o ++ ys, ρ2)
def putD (i : Nat) (d : D) (ρ : En) : Option En := if i < ρ.length ∧ bor d = false then some (ρ.set i (some d)) else none
/-- keys of a dict -/
def kOf : D → Option L2.Key
  | .int i => some (.inl i)
  | .str s => some (.inr s)
  | _ => none
def kOfL : List D → Option (List L2.Key)
  | [] => some []
  | d :: ds => match kOf d with
    | some k => (kOfL ds).map (k :: ·)
    | none => none
def kOfT : D → Option (List L2.Key)
  | .tup xs => kOfL xs
  | _ => none
def ksT : List D → Option (List (List L2.Key))
  | [] => some []
  | d :: ds => match kOfT d with
    | some k => (ksT ds).map (k :: ·)
    | none => none
/-- the first of each -/
def addK {κ : Type} [DecidableEq κ] : List κ → List κ → List κ
  | seen, [] => seen
  | seen, k :: ks => addK (if k ∈ seen then seen else seen ++ [k]) ks
def uniqS (ys : List D) : Option Nat := match kOfL ys with
  | some ks => some (addK [] ks).length
  | none => match ksT ys with
    | some ks => some (addK [] ks).length
    | none => none

def keysInt : List L2.Key → Option (List Int)
  | [] => some []
  | .inl i :: ks => (keysInt ks).map (i :: ·)
  | .inr _ :: _ => none
def usS (ys : List D) : Option (List Int) := match kOfL ys with
  | some ks => keysInt (addK [] ks)
  | none => none
def isNil : E → Bool
  | .nil => true
  | _ => false
def isAbs : E → Bool
  | .abs_ => true
  | _ => false
/-- what is walked: the items, and what must stay -/
def itOf : E → D → Option (List D × D)
  | .rng _, .tup xs => some (xs, .non)
  | .rng2 _ _, .tup xs => some (xs, .non)
  | .enum _, .tup [.tup xs, d] => some (xs, d)
  | .zip _ _, .tup [.tup xs, d] => some (xs, d)
  | .enum _, _ => none
  | .zip _ _, _ => none
  | .rng _, _ => none
  | .rng2 _ _, _ => none
  | _, d => match seqOf d with
    | some xs => if frzL xs then some (xs, d) else none
    | none => none
/-- a slice's bound -/
def bndOf : E → D → Option (Option Int)
  | .abs_, _ => some none
  | _, .int i => some (some i)
  | _, _ => none
abbrev Cal := Nat → List D → Option (D × List D)
section
variable (gl : List (Str × D)) (cal : Cal)
mutual
def evE : E → En → Option (D × En)
  | .v m i, ρ => match ρ[i]? with
    | some (some d) => match m with
      | .bo => some (look d, ρ)
      | .mv => some (d, ρ.set i none)
      | .fz => some (share d, ρ.set i (some (share d)))
    | _ => none
  | .int i, ρ => some (.int i, ρ)
  | .bl b, ρ => some (.bl b, ρ)
  | .non, ρ => some (.non, ρ)
  | .str s, ρ => some (.str s, ρ)
  | .glob k, ρ => match gl[k]? with
    | some (_, d) => some (d, ρ)
    | none => none
  | .bin o a b, ρ => match evE a ρ with
    | none => none
    | some (x, ρ1) => match evE b ρ1 with
      | none => none
      | some (y, ρ2) => if bor x && !isP b then none else (binS o x y).map fun r => (r, ρ2)
  | .neg a, ρ => match evE a ρ with
    | some (.int i, ρ1) => some (.int (-i), ρ1)
    | _ => none
  | .cmp o a b, ρ => match evE a ρ with
    | none => none
    | some (x, ρ1) => match evE b ρ1 with
      | none => none
      | some (y, ρ2) => if bor x && !isP b then none else (cmpS o x y).map fun r => (r, ρ2)
  | .chain o o' a b c, ρ => match evE a ρ with
    | none => none
    | some (x, ρ1) => match evE b ρ1 with
      | none => none
      | some (y, ρ2) => if bor x && !isP b then none else match cmpS o x y with
        | some (.bl true) => (match evE c ρ2 with
          | none => none
          | some (z, ρ3) => if bor y && !isP c then none else (cmpS o' y z).map fun r => (r, ρ3))
        | some (.bl false) => some (.bl false, ρ2)
        | _ => none
  | .and_ es, ρ => evAnd es ρ
  | .or_ es, ρ => evOr es ρ
  | .not_ a, ρ => match evE a ρ with
    | some (.bl b, ρ1) => some (.bl (!b), ρ1)
    | _ => none
  | .ife c a b, ρ => match evE c ρ with
    | some (.bl true, ρ1) => evE a ρ1
    | some (.bl false, ρ1) => evE b ρ1
    | _ => none
  | .tup es, ρ => match evA es ρ with
    | some (ds, ρ1) => if ds.length ≤ 1000 then some (.tup ds, ρ1) else none
    | none => none
  | .lst es, ρ => match evA es ρ with
    | some (ds, ρ1) => if ds.length ≤ 1000 ∧ borL ds = false then some (.lst .own ds, ρ1) else none
    | none => none
  | .idx a i, ρ => match evE a ρ with
    | none => none
    | some (x, ρ1) => match evE i ρ1 with
      | none => none
      | some (y, ρ2) => if bor x && !isP i then none else (idxS x y).map fun r => (r, ρ2)
  | .slc a lo hi, ρ => match evE a ρ with
    | none => none
    | some (x, ρ1) => match evE lo ρ1 with
      | none => none
      | some (l, ρ2) => match evE hi ρ2 with
        | none => none
        | some (h, ρ3) => if bor x && !(isP lo && isP hi) then none else match bndOf lo l, bndOf hi h with
          | some l, some h => (slcS x l h).map fun r => (r, ρ3)
          | _, _ => none
  | .bi f es, ρ => match evA es ρ with
    | some (ds, ρ1) => (biS f ds).map fun r => (r, ρ1)
    | none => none
  | .isi a n, ρ => match evE a ρ with
    | some (x, ρ1) => (isiS x n).map fun r => (.bl r, ρ1)
    | none => none
  | .fc k es, ρ => match evF es ρ with
    | none => none
    | some (ds, ρ1) => match fillL (lends es) ds ρ1 with
      | none => none
      | some (ds', ρ2) => match cal k ds' with
        | none => none
        | some (r, fin) => match giveL (lends es) ds' fin ρ2 with
          | none => none
          | some ρ3 => if bor r then none else some (r, ρ3)
  | .lc elt t it c vs, ρ => match evE it ρ with
    | none => none
    | some (d0, ρ1) => match itOf it d0 with
      | none => none
      | some (items, kp) => if (bor kp && !(isP elt && isP c)) || !decide (items.length ≤ sizeLine) || !(tgs t).all vs.contains then none else
        match lcL (fun x ρ => match bindT t x ρ with
            | none => none
            | some ρ2 => match evE c ρ2 with
              | some (.bl true, ρ3) => (match evE elt ρ3 with
                | some (y, ρ4) => if bor y then none else some ([y], wipeD ρ4 vs)
                | none => none)
              | some (.bl false, ρ3) => some ([], wipeD ρ3 vs)
              | _ => none) items (wipeD ρ1 vs) with
        | some (ys, ρ2) => some (.lst .own ys, restore ρ1 vs ρ2)
        | none => none
  | .lc2 elt t it t2 it2 c vs vs2, ρ => match evE it ρ with
    | none => none
    | some (d0, ρ1) => match itOf it d0 with
      | none => none
      | some (items, kp) => if (bor kp && !(isP elt && isP c && isP it2)) || !decide (items.length ≤ sizeLine) || !(tgs t).all vs.contains || !(tgs t2).all vs2.contains || !vs2.all vs.contains then none else
        match lcL (fun x ρ => match bindT t x ρ with
            | none => none
            | some ρ2 => match evE it2 ρ2 with
              | none => none
              | some (d2, ρ3) => match itOf it2 d2 with
                | none => none
                | some (items2, kp2) => if bor kp2 || !decide (items2.length ≤ sizeLine) || !(isP elt && isP c && isP it2) then none else
                  match lcL (fun x ρ => match bindT t2 x ρ with
                    | none => none
                    | some ρ4 => match evE c ρ4 with
                      | some (.bl true, ρ5) => (match evE elt ρ5 with
                        | some (y, ρ6) => if bor y then none else some ([y], wipeD ρ6 vs2)
                        | none => none)
                      | some (.bl false, ρ5) => some ([], wipeD ρ5 vs2)
                      | _ => none) items2 (wipeD ρ3 vs2) with
                  | some (ys, ρ4) => some (ys, wipeD ρ4 vs)
                  | none => none) items (wipeD ρ1 vs) with
        | some (ys, ρ2) => if ys.length ≤ sizeLine then some (.lst .own ys, restore ρ1 vs ρ2) else none
        | none => none
  | .uniq key t it vs, ρ => match evE it ρ with
    | none => none
    | some (d0, ρ1) => match itOf it d0 with
      | none => none
      | some (items, kp) => if !isP key || !decide (items.length ≤ 1000) || !(tgs t).all vs.contains then none else
        match lcL (fun x ρ => match bindT t x ρ with
            | none => none
            | some ρ2 => match evE key ρ2 with
              | some (y, ρ3) => some ([y], wipeD ρ3 vs)
              | none => none) items (wipeD ρ1 vs) with
        | some (ys, ρ2) => (uniqS ys).map fun n => (.int (n : Nat), restore ρ1 vs ρ2)
        | none => none
  | .usort key t it vs, ρ => match evE it ρ with
    | none => none
    | some (d0, ρ1) => match itOf it d0 with
      | none => none
      | some (items, kp) => if !isP key || !decide (items.length ≤ 1000) || !(tgs t).all vs.contains then none else
        match lcL (fun x ρ => match bindT t x ρ with
            | none => none
            | some ρ2 => match evE key ρ2 with
              | some (y, ρ3) => some ([y], wipeD ρ3 vs)
              | none => none) items (wipeD ρ1 vs) with
        | some (ys, ρ2) => (usS ys).map fun ns => (.lst .own ((isort ns).map .int), restore ρ1 vs ρ2)
        | none => none
  | .pop i k, ρ => match ρ[i]? with
    | some (some (.lst .own _)) => (match evE k ρ with
      | some (.int j, ρ1) => match ρ1[i]? with
        | some (some (.lst .own xs)) => match ixN xs.length j with
          | some n => if -(2 ^ 63) ≤ j ∧ j < 2 ^ 63 then match xs[n]? with
            | some x => some (x, ρ1.set i (some (.lst .own (xs.eraseIdx n))))
            | none => none else none
          | none => none
        | _ => none
      | _ => none)
    | _ => none
  | .lend _, _ => none
  | .nil, _ => none
  | .cons _ _, _ => none
  | .abs_, ρ => some (.non, ρ)
  | .rng a, ρ => match evE a ρ with
    | some (.int j, ρ1) => if j ≤ sizeLine ∧ -sizeLine ≤ j then some (.tup (rangeD 0 j.toNat), ρ1) else none
    | _ => none
  | .rng2 a b, ρ => match evE a ρ with
    | some (.int i, ρ1) => (match evE b ρ1 with
      | some (.int j, ρ2) => if -sizeLine ≤ i ∧ i ≤ sizeLine ∧ j ≤ sizeLine ∧ -sizeLine ≤ j ∧ (j - i).toNat ≤ sizeLine then some (.tup (rangeD i (j - i).toNat), ρ2) else none
      | _ => none)
    | _ => none
  | .enum a, ρ => match evE a ρ with
    | some (d, ρ1) => match seqOf d with
      | some xs => if frzL xs then some (.tup [.tup (xs.mapIdx fun i x => .tup [.int (i : Nat), x]), d], ρ1) else none
      | none => none
    | none => none
  | .zip _ _, _ => none
  | .sh a, ρ => match evE a ρ with
    | some (d, ρ1) => if bor d then none else some (share d, ρ1)
    | none => none
  | .meth m a x, ρ => match evE a ρ with
    | none => none
    | some (d, ρ1) => match evE x ρ1 with
      | none => none
      | some (y, ρ2) => if bor d && !isP x then none else (meS m d y).map fun r => (r, ρ2)
  | .lrg a, ρ => match evE a ρ with
    | some (.int j, ρ1) => if j ≤ sizeLine ∧ -sizeLine ≤ j then some (.lst .own (rangeD 0 j.toNat), ρ1) else none
    | _ => none
/-- items, from the left -/
def evA : E → En → Option (List D × En)
  | .nil, ρ => some ([], ρ)
  | .cons a es, ρ => match evE a ρ with
    | none => none
    | some (d, ρ1) => match evA es ρ1 with
      | none => none
      | some (ds, ρ2) => if bor d && !isP es then none else some (d :: ds, ρ2)
  | _, _ => none
/-- arguments, from the left (a lent one by a dummy) -/
def evF : E → En → Option (List D × En)
  | .nil, ρ => some ([], ρ)
  | .cons a es, ρ => match lendOf a with
    | some i => (match ρ[i]? with
      | some (some _) => (match evF es ρ with
        | some (ds, ρ2) => some (.non :: ds, ρ2)
        | none => none)
      | _ => none)
    | none => match evE a ρ with
      | none => none
      | some (d, ρ1) => match evF es ρ1 with
        | none => none
        | some (ds, ρ2) => if bor d then none else some (d :: ds, ρ2)
  | _, _ => none
def evAnd : E → En → Option (D × En)
  | .cons a es, ρ => match isNil es with
    | true => evE a ρ
    | false => match evE a ρ with
      | some (.bl true, ρ1) => evAnd es ρ1
      | some (.bl false, ρ1) => some (.bl false, ρ1)
      | _ => none
  | _, _ => none
def evOr : E → En → Option (D × En)
  | .cons a es, ρ => match isNil es with
    | true => evE a ρ
    | false => match evE a ρ with
      | some (.bl false, ρ1) => evOr es ρ1
      | some (.bl true, ρ1) => some (.bl true, ρ1)
      | _ => none
  | _, _ => none
end
/-- what is walked: the items, what must stay, the rest -/
def evI (it : E) (ρ : En) : Option (List D × D × En) := match evE gl cal it ρ with
  | none => none
  | some (d0, ρ1) => match itOf it d0 with
    | none => none
    | some (items, kp) => some (items, kp, ρ1)
def evB (e : E) (ρ : En) : Option (Option Int × En) := match evE gl cal e ρ with
  | none => none
  | some (d, ρ1) => match bndOf e d with
    | some o => some (o, ρ1)
    | none => none

/-! ### statements -/
inductive R where
  | nx (ρ : En) | rt (d : D) (ρ : En) | bk (ρ : En) | ct (ρ : En)
def forL (wp : List Nat) (t : T) (f : En → Option R) : List D → En → Option R
  | [], ρ => some (.nx ρ)
  | x :: xs, ρ => match bindT t x ρ with
    | none => none
    | some ρ1 => match f ρ1 with
      | some (.nx ρ2) => forL wp t f xs (wipeD ρ2 wp)
      | some (.ct ρ2) => forL wp t f xs (wipeD ρ2 wp)
      | some (.bk ρ2) => some (.nx (wipeD ρ2 wp))
      | some (.rt d ρ2) => some (.rt d ρ2)
      | none => none
def whlL (wp : List Nat) (c : En → Option (D × En)) (f : En → Option R) : Nat → En → Option R
  | 0, _ => none
  | n + 1, ρ => match c ρ with
    | some (.bl false, ρ1) => some (.nx ρ1)
    | some (.bl true, ρ1) => (match f ρ1 with
      | some (.nx ρ2) => whlL wp c f n (wipeD ρ2 wp)
      | some (.ct ρ2) => whlL wp c f n (wipeD ρ2 wp)
      | some (.bk ρ2) => some (.nx (wipeD ρ2 wp))
      | some (.rt d ρ2) => some (.rt d ρ2)
      | none => none)
    | _ => none
variable (W : Nat)
def evS : S → En → Option R
  | .nil, ρ => some (.nx ρ)
  | .cons s r, ρ => match evS s ρ with
    | some (.nx ρ1) => evS r ρ1
    | x => x
  | .pass, ρ => some (.nx ρ)
  | .asg t e, ρ => match evE gl cal e ρ with
    | some (d, ρ1) => (bindT t d ρ1).map .nx
    | none => none
  | .par i j a b, ρ => match evA gl cal (.cons a (.cons b .nil)) ρ with
    | some ([x, y], ρ1) => if i = j then none else ((putD i x ρ1).bind fun ρ2 => putD j y ρ2).map .nx
    | _ => none
  | .par3 i j k a b c, ρ => match evA gl cal (.cons a (.cons b (.cons c .nil))) ρ with
    | some ([x, y, z], ρ1) => if i = j ∨ i = k ∨ j = k then none else (((putD i x ρ1).bind fun ρ2 => putD j y ρ2).bind fun ρ3 => putD k z ρ3).map .nx
    | _ => none
  | .ex e, ρ => match evE gl cal e ρ with
    | some (_, ρ1) => some (.nx ρ1)
    | none => none
  | .app i e, ρ => match ρ[i]? with
    | some (some (.lst .own _)) => (match evE gl cal e ρ with
      | some (d, ρ1) => match ρ1[i]? with
        | some (some (.lst .own xs)) => if xs.length < sizeLine ∧ bor d = false then some (.nx (ρ1.set i (some (.lst .own (xs ++ [d]))))) else none
        | _ => none
      | none => none)
    | _ => none
  | .ext i e, ρ => match ρ[i]? with
    | some (some (.lst .own _)) => (match evE gl cal e ρ with
      | some (.lst f ys, ρ1) => match ρ1[i]? with
        | some (some (.lst .own xs)) => if f ≠ .cst ∧ xs.length + ys.length ≤ sizeLine ∧ borL ys = false then some (.nx (ρ1.set i (some (.lst .own (xs ++ ys))))) else none
        | _ => none
      | _ => none)
    | _ => none
  | .set1 i k e, ρ => match evE gl cal e ρ with
    | none => none
    | some (d, ρ1) => match ρ1[i]? with
      | some (some (.lst .own _)) => (match evE gl cal k ρ1 with
        | some (.int n, ρ2) => match ρ2[i]? with
          | some (some (.lst .own xs)) => match ixN xs.length n with
            | some j => if bor d = false then some (.nx (ρ2.set i (some (.lst .own (xs.set j d))))) else none
            | none => none
          | _ => none
        | _ => none)
      | _ => none
  | .set2 i k1 k2 e, ρ => match evE gl cal e ρ with
    | none => none
    | some (d, ρ1) => match ρ1[i]? with
      | some (some (.lst .own _)) => (match evE gl cal k1 ρ1 with
        | some (.int n1, ρ2) => match ρ2[i]? with
          | some (some (.lst .own xs2)) => match atI xs2 n1 with
            | some (.lst .own _) => (match evE gl cal k2 ρ2 with
              | some (.int n2, ρ3) => if isP k2 then match ρ3[i]? with
                | some (some (.lst .own xs)) => match ixN xs.length n1 with
                  | some j1 => match xs[j1]? with
                    | some (.lst .own ys) => match ixN ys.length n2 with
                      | some j2 => if bor d = false then some (.nx (ρ3.set i (some (.lst .own (xs.set j1 (.lst .own (ys.set j2 d))))))) else none
                      | none => none
                    | _ => none
                  | none => none
                | _ => none else none
              | _ => none)
            | _ => none
          | _ => none
        | _ => none)
      | _ => none
  | .pop2 i k1 k2, ρ => match ρ[i]? with
    | some (some (.lst .own _)) => (match evE gl cal k1 ρ with
      | some (.int n1, ρ1) => match ρ1[i]? with
        | some (some (.lst .own xs2)) => match atI xs2 n1 with
          | some (.lst .own _) => (match evE gl cal k2 ρ1 with
            | some (.int n2, ρ2) => if isP k2 then match ρ2[i]? with
              | some (some (.lst .own xs)) => match ixN xs.length n1 with
                | some j1 => match xs[j1]? with
                  | some (.lst .own ys) => match ixN ys.length n2 with
                    | some j2 => if -(2 ^ 63) ≤ n2 ∧ n2 < 2 ^ 63 then some (.nx (ρ2.set i (some (.lst .own (xs.set j1 (.lst .own (ys.eraseIdx j2))))))) else none
                    | none => none
                  | _ => none
                | none => none
              | _ => none else none
            | _ => none)
          | _ => none
        | _ => none
      | _ => none)
    | _ => none
  | .aug i o e, ρ => match ρ[i]? with
    | some (some (.int x)) => match evE gl cal e ρ with
      | some (.int y, ρ1) => match o with
        | .add => (putD i (.int (x + y)) ρ1).map .nx
        | .sub => (putD i (.int (x - y)) ρ1).map .nx
        | _ => none
      | _ => none
    | _ => none
  | .ifs c a b, ρ => match evE gl cal c ρ with
    | some (.bl true, ρ1) => evS a ρ1
    | some (.bl false, ρ1) => evS b ρ1
    | _ => none
  | .for_ t it b wp, ρ => match evI gl cal it ρ with
    | some (items, kp, ρ1) => if bor kp then none else forL wp t (evS b) items (wipeD ρ1 wp)
    | none => none
  | .whl c b wp, ρ => whlL wp (evE gl cal c) (evS b) W (wipeD ρ wp)
  | .ret e, ρ => match evE gl cal e ρ with
    | some (d, ρ1) => if bor d then none else some (.rt d ρ1)
    | none => none
  | .retn, ρ => some (.rt .non ρ)
  | .brk, ρ => some (.bk ρ)
  | .cnt, ρ => some (.ct ρ)
  | .no, _ => none
/-- the slots that a statement stores to -/
def asgs : S → List Nat
  | .cons s r => asgs s ++ asgs r
  | .asg t _ => tgs t
  | .par i j _ _ => [i, j]
  | .par3 i j k _ _ _ => [i, j, k]
  | .aug i _ _ => [i]
  | .ifs _ a b => asgs a ++ asgs b
  | .for_ t _ b _ => tgs t ++ asgs b
  | .whl _ b _ => asgs b
  | _ => []
end
/-- what becomes of the arguments -/
def finL (as : List Nat) : Nat → List D → En → Option (List D)
  | _, [], _ => some []
  | i, d :: ds, ρ => match finL as (i + 1) ds ρ with
    | none => none
    | some fs => if frz d then some (d :: fs) else match ρ[i]? with
      | some (some f) => if as.contains i then none else some (f :: fs)
      | _ => none
def runF (p : Pg) (W : Nat) (cal : Cal) (f : Fi) (ds : List D) : Option (D × List D) :=
  if ds.length = f.np ∧ f.np ≤ f.N.length ∧ borL ds = false then
    match evS p.gs cal W f.body (ds.map some ++ List.replicate (f.N.length - f.np) none) with
    | some (.nx ρ) => (finL (asgs f.body) 0 ds ρ).map fun fs => (.non, fs)
    | some (.rt d ρ) => (finL (asgs f.body) 0 ds ρ).map fun fs => (d, fs)
    | _ => none
  else none
def calN (p : Pg) (W : Nat) : Nat → Cal
  | 0 => fun _ _ => none
  | n + 1 => fun k ds => match p.fs[k]? with
    | some f => runF p W (calN p W n) f ds
    | none => none
end Pur

/-! Pur4: that the small syntax is what stands in the text. -/
namespace Pur
open PySem L2

/-- what is known of the names where a text stands -/
structure SC where
  N : List Str
  sc : Scope
  fn : Str → Bool
def SC.blk (c : SC) (scope : Scope) : SC := { N := c.N, sc := relS scope c.sc, fn := fun x => scope.names.lookup x == some .cell }
def visB (c : SC) (i : Nat) (x : Str) : Bool :=
  decide (c.N[i]? = some x) && (match c.sc.names.lookup x with | some .local => true | some .cell => true | some .free => true | _ => false) &&
    !(x == ("__debug__" : Str)) && !(x == ("__classdict__" : Str))
def locB (c : SC) (i : Nat) (x : Str) : Bool :=
  decide (c.N[i]? = some x) && (match c.sc.names.lookup x with | some .local => true | some .cell => c.fn x | _ => false)
/-- a local one that no cell holds -/
def plainB (c : SC) (i : Nat) (x : Str) : Bool :=
  decide (c.N[i]? = some x) && (match c.sc.names.lookup x with | some .local => true | _ => false)
def glB (c : SC) (x : Str) : Bool :=
  (match c.sc.names.lookup x with | some .globalImplicit => true | _ => false) && !(x == ("__debug__" : Str))
def boOp : Bo → Operator
  | .add => .Add | .sub => .Sub | .mul => .Mult | .fdiv => .FloorDiv | .mod => .Mod | .pow => .Pow
def coOp : Co → CmpOp
  | .lt => .Lt | .le => .LtE | .gt => .Gt | .ge => .GtE | .eq => .Eq | .ne => .NotEq | .is => .Is | .isnot => .IsNot | .in_ => .In | .notin => .NotIn
def biNm : Bi → Str
  | .len => "len" | .abs => "abs" | .int => "int" | .all => "all" | .any => "any" | .sum => "sum" | .max => "max" | .min => "min" | .sorted => "sorted"
  | .list => "list" | .tuple => "tuple" | .repr => "repr"
/-- the built-in names that must be as they are -/
def bNames : List Str := ["len", "abs", "int", "all", "any", "sum", "max", "min", "sorted", "list", "tuple", "repr", "isinstance", "bool", "str", "range", "enumerate", "zip"]
def isSlice : Expr → Bool
  | .Slice .. => true
  | _ => false
def isSet : Expr → Bool
  | .Set .. => true
  | _ => false
def isStar : Expr → Bool
  | .Starred .. => true
  | _ => false
def isComp : Expr → Bool
  | .ListComp .. => true
  | .SetComp .. => true
  | .DictComp .. => true
  | _ => false
def isTru : E → Bool
  | .bl true => true
  | _ => false
def isTupE : Expr → Bool
  | .Tuple .. => true
  | _ => false
def meNm : Me → Str
  | .index => "index" | .count => "count"
def okBase : Expr → Bool
  | .Name .. => true
  | .Subscript .. => true
  | _ => false
/-- the slots of own names -/
def ownOf (c : SC) (vs : List Nat) : List (Str × Nat) := vs.filterMap fun i => (c.N[i]?).map fun x => (x, i)
def okOwn (c : SC) (scope : Scope) (vs : List Nat) : Bool := decide ((ownOf c vs).map (·.2) = vs) && blkC c.N c.sc scope (ownOf c vs)

mutual
def chkT (c : SC) : T → Expr → Bool
  | .nm i, e => (match e with | .Name x _ => locB c i x | _ => false)
  | .tp ts, e => (match e with | .Tuple es _ _ => chkTs c ts es | _ => false)
  | .nil, _ => false
  | .cons _ _, _ => false
def chkTs (c : SC) : T → List Expr → Bool
  | .nil, es => (match es with | [] => true | _ => false)
  | .cons t r, es => (match es with | e :: es => chkT c t e && chkTs c r es | _ => false)
  | .nm _, _ => false
  | .tp _, _ => false
end
section
variable (p : Pg)
mutual
def chkE (c : SC) : E → Expr → Bool
  | .v _ i, e => (match e with | .Name x _ => visB c i x | _ => false)
  | .lend i, e => (match e with | .Name x _ => visB c i x | _ => false)
  | .int i, e => (match e with | .Constant (.int j) _ _ => decide (i = j) | _ => false)
  | .bl b, e => (match e with | .Constant (.bool j) _ _ => decide (b = j) | _ => false)
  | .non, e => (match e with | .Constant .none _ _ => true | _ => false)
  | .str s, e => (match e with | .Constant (.str j) _ _ => decide (s = j) | _ => false)
  | .glob k, e => (match e with | .Name x _ => (match p.gs[k]? with | some (y, _) => decide (x = y) && glB c x | none => false) | _ => false)
  | .bin o a b, e => (match e with | .BinOp l op r _ => decide (op = boOp o) && chkE c a l && chkE c b r | _ => false)
  | .neg a, e => (match e with | .UnaryOp .USub l _ => chkE c a l | _ => false)
  | .cmp o a b, e => (match e with | .Compare l [op] [r] _ => decide (op = coOp o) && !behindInMarks op r && chkE c a l && chkE c b r | _ => false)
  | .chain o o' a b d, e => (match e with | .Compare l [op, op'] [r, r'] _ => decide (op = coOp o) && decide (op' = coOp o') && !lastMarks [op, op'] [r, r'] && chkE c a l && chkE c b r && chkE c d r' | _ => false)
  | .and_ es, e => (match e with | .BoolOp .And (l :: ls) _ => chkA c es (l :: ls) | _ => false)
  | .or_ es, e => (match e with | .BoolOp .Or (l :: ls) _ => chkA c es (l :: ls) | _ => false)
  | .not_ a, e => (match e with | .UnaryOp .Not l _ => chkE c a l | _ => false)
  | .ife d a b, e => (match e with | .IfExp l x y _ => chkE c d l && chkE c a x && chkE c b y | _ => false)
  | .tup es, e => (match e with | .Tuple ls _ _ => chkA c es ls | _ => false)
  | .lst es, e => (match e with | .List ls _ => chkA c es ls | _ => false)
  | .idx a i, e => (match e with | .Subscript l s _ => !isSlice s && chkE c a l && chkE c i s | _ => false)
  | .slc a lo hi, e => (match e with
    | .Subscript l (.Slice x y none _) _ => chkE c a l && (match x with | none => isAbs lo | some l => !isAbs lo && chkE c lo l) && (match y with | none => isAbs hi | some l => !isAbs hi && chkE c hi l)
    | _ => false)
  | .bi f es, e => (match e with | .Call (.Name x _) (l :: ls) [] _ => decide (x = biNm f) && glB c x && chkA c es (l :: ls) | _ => false)
  | .isi a n, e => (match e with | .Call (.Name x _) [l, .Name y _] [] _ => decide (x = ("isinstance" : Str)) && glB c x && decide (y = Str.ofString n) && glB c y && chkE c a l | _ => false)
  | .fc k es, e => (match e with
    | .Call (.Name x _) ls [] _ => (match p.fs[k]? with | some f => decide (x = f.name) && glB c x && decide (ls.length = f.np) && chkA c es ls | none => false)
    | _ => false)
  | .lc elt t it d vs, e => (match e with
    | .ListComp l [⟨tg, iter, ifs, 0⟩] scope _ => okOwn c scope vs && (chkE c it iter || chkJ c it iter tg) && !isSet iter && chkT (c.blk scope) t tg && chkE (c.blk scope) elt l &&
      (match ifs with | [] => isTru d | [f] => chkE (c.blk scope) d f | _ => false)
    | _ => false)
  | .lc2 elt t it t2 it2 d vs _, e => (match e with
    | .ListComp l [⟨tg, iter, [], 0⟩, ⟨tg2, iter2, ifs, 0⟩] scope _ => okOwn c scope vs && (chkE c it iter || chkJ c it iter tg) && !isSet iter && chkT (c.blk scope) t tg && (chkE (c.blk scope) it2 iter2 || chkJ (c.blk scope) it2 iter2 tg2) && !isSet iter2 && chkT (c.blk scope) t2 tg2 &&
      chkE (c.blk scope) elt l && (match ifs with | [] => isTru d | [f] => chkE (c.blk scope) d f | _ => false)
    | _ => false)
  | .uniq key t it vs, e => (match e with
    | .Call (.Name x _) [.DictComp l (.Constant (.bool _) _ _) [⟨tg, iter, [], 0⟩] scope _] [] _ => decide (x = ("len" : Str)) && glB c x && okOwn c scope vs && (chkE c it iter || chkJ c it iter tg) && !isSet iter && chkT (c.blk scope) t tg && chkE (c.blk scope) key l
    | _ => false)
  | .usort key t it vs, e => (match e with
    | .Call (.Name x _) [.DictComp l (.Constant (.bool _) _ _) [⟨tg, iter, [], 0⟩] scope _] [] _ => decide (x = ("sorted" : Str)) && glB c x && okOwn c scope vs && (chkE c it iter || chkJ c it iter tg) && !isSet iter && chkT (c.blk scope) t tg && chkE (c.blk scope) key l
    | _ => false)
  | .pop i k, e => (match e with
    | .Call (.Attribute (.Name x _) m ap) [l] [] cp => decide (m = ("pop" : Str)) && visB c i x && (ap.endLine == cp.line) && chkE c k l
    | _ => false)
  | .nil, _ => false
  | .cons _ _, _ => false
  | .abs_, _ => false
  | .rng _, _ => false
  | .rng2 _ _, _ => false
  | .enum _, _ => false
  | .zip _ _, _ => false
  | .sh a, e => (match e with
    | .List x y => chkE c a (.List x y)
    | .ListComp x y z w => chkE c a (.ListComp x y z w)
    | .Call x y z w => chkE c a (.Call x y z w)
    | .BinOp x y z w => chkE c a (.BinOp x y z w)
    | .IfExp x y z w => chkE c a (.IfExp x y z w)
    | _ => false)
  | .meth m a x, e => (match e with
    | .Call (.Attribute o n ap) [l] [] cp => decide (n = meNm m) && (ap.endLine == cp.line) && okBase o && !isStar l && chkE c a o && chkE c x l
    | _ => false)
  | .lrg a, e => (match e with
    | .Call (.Name x _) [.Call (.Name y yp) [l] [] q] [] _ => decide (x = ("list" : Str)) && glB c x && decide (y = ("range" : Str)) && glB c y && !isStar l && chkE c a l
    | _ => false)
def chkA (c : SC) : E → List Expr → Bool
  | .nil, ls => (match ls with | [] => true | _ => false)
  | .cons a es, ls => (match ls with | l :: ls => !isStar l && chkE c a l && chkA c es ls | _ => false)
  | _, _ => false
def chkJ (c : SC) : E → Expr → Expr → Bool
  | .rng a, e, _ => (match e with | .Call (.Name x _) [l] [] _ => decide (x = ("range" : Str)) && glB c x && !isStar l && chkE c a l | _ => false)
  | .rng2 a b, e, _ => (match e with | .Call (.Name x _) [l, r] [] _ => decide (x = ("range" : Str)) && glB c x && !isStar l && !isStar r && chkE c a l && chkE c b r | _ => false)
  | .enum a, e, tg => (match e with | .Call (.Name x _) [l] [] _ => decide (x = ("enumerate" : Str)) && glB c x && isTupE tg && !isStar l && chkE c a l | _ => false)
  | .zip a b, e, tg => (match e with | .Call (.Name x _) [l, r] [] _ => decide (x = ("zip" : Str)) && glB c x && isTupE tg && !isStar l && !isStar r && chkE c a l && chkE c b r | _ => false)
  | _, _, _ => false
end
def chkO (c : SC) (e : E) (x : Option Expr) : Bool := match x with | none => isAbs e | some l => !isAbs e && chkE p c e l
def chkI (c : SC) (it : E) (iter tg : Expr) : Bool := chkE p c it iter || chkJ p c it iter tg
/-- is the value made straight into the name's slot -/
def swB (c : SC) (y : Str) (py : Pos) (v : Expr) : Bool := match v with
  | .ListComp _ _ scope pos => (match c.sc.names.lookup y with | some .local => true | _ => false) && (py.line == pos.line) && !(scope.names.any fun (n, k) => n == y && (k == .local || k == .cell))
  | _ => false
/-- a, b = x, y where the pair is made and taken apart again -/
def noSwap (c : SC) (ts vs : List Expr) : Bool :=
  !(ts.length == 2 || ts.length == 3) || vs.length != ts.length ||
    ((ts.filterMap fun | .Name id pos => if c.sc.names.lookup id == some .local && pos.line == (ts.head?.map (·.pos.line)).getD 0 then some id else none
                       | _ => none).length != ts.length) || (vs.all (foldedForSure 8))
mutual
def chkS (c : SC) : S → Stmt → Bool
  | .pass, s => (match s with | .Pass _ => true | _ => false)
  | .asg t e, s => (match s with
    | .Assign [tg] v _ => chkE p c e v && chkT c t tg && (match tg, v with
      | .Name y py, .ListComp _ _ scope pos => (match c.sc.names.lookup y with
        | some .local => (py.line == pos.line) && !(scope.names.any fun (n, k) => n == y && (k == .local || k == .cell))
        | _ => true)
      | .Tuple ts _ _, .Tuple vs _ _ => noSwap c ts vs
      | _, _ => true)
    | _ => false)
  | .par i j a b, s => (match s with
    | .Assign [.Tuple [.Name x px, .Name y py] _ _] (.Tuple [l, r] _ _) _ =>
      plainB c i x && plainB c j y && (px.line == py.line) && !(x == y) && !isStar l && !isStar r && !([l, r].all (foldedForSure 8)) && !([l, r].all (constantsAlone 8)) && chkE p c a l && chkE p c b r
    | _ => false)
  | .par3 i j k a b d, s => (match s with
    | .Assign [.Tuple [.Name x px, .Name y py, .Name z pz] _ _] (.Tuple [l, r, q] _ _) _ =>
      plainB c i x && plainB c j y && plainB c k z && (px.line == py.line) && (px.line == pz.line) && !(x == y) && !(x == z) && !(y == z) && !isStar l && !isStar r && !isStar q && !([l, r, q].all (foldedForSure 8)) && !([l, r, q].all (constantsAlone 8)) &&
        chkE p c a l && chkE p c b r && chkE p c d q
    | _ => false)
  | .ex e, s => (match s with | .Expr v _ => !isComp v && chkE p c e v | _ => false)
  | .app i e, s => (match s with | .Expr (.Call (.Attribute (.Name x _) m ap) [l] [] cp) _ => decide (m = ("append" : Str)) && visB c i x && (ap.endLine == cp.line) && !isStar l && chkE p c e l | _ => false)
  | .ext i e, s => (match s with | .Expr (.Call (.Attribute (.Name x _) m ap) [l] [] cp) _ => decide (m = ("extend" : Str)) && visB c i x && (ap.endLine == cp.line) && !isStar l && chkE p c e l | _ => false)
  | .set1 i k e, s => (match s with | .Assign [.Subscript (.Name x _) kl _] v _ => visB c i x && !isSlice kl && chkE p c k kl && chkE p c e v | _ => false)
  | .set2 i k1 k2 e, s => (match s with | .Assign [.Subscript (.Subscript (.Name x _) kl _) kl2 _] v _ => visB c i x && !isSlice kl && !isSlice kl2 && chkE p c k1 kl && chkE p c k2 kl2 && chkE p c e v | _ => false)
  | .pop2 i k1 k2, s => (match s with
    | .Expr (.Call (.Attribute (.Subscript (.Name x _) kl _) m ap) [l] [] cp) _ => decide (m = ("pop" : Str)) && visB c i x && !isSlice kl && (ap.endLine == cp.line) && !isStar l && chkE p c k1 kl && chkE p c k2 l
    | _ => false)
  | .aug i o e, s => (match s with | .AugAssign (.Name x _) op v _ => locB c i x && decide (op = boOp o) && chkE p c e v | _ => false)
  | .ifs d a b, s => (match s with | .If t x y _ => chkE p c d t && chkB c a x && chkB c b y | _ => false)
  | .for_ t it b _, s => (match s with | .For tg iter body [] _ => chkI p c it iter tg && !isSet iter && chkT c t tg && chkB c b body | _ => false)
  | .whl d b _, s => (match s with | .While t body [] _ => chkE p c d t && chkB c b body | _ => false)
  | .ret e, s => (match s with | .Return (some v) _ => chkE p c e v | _ => false)
  | .retn, s => (match s with | .Return none _ => true | _ => false)
  | .brk, s => (match s with | .Break _ => true | _ => false)
  | .cnt, s => (match s with | .Continue _ => true | _ => false)
  | .no, _ => true
  | .nil, _ => false
  | .cons _ _, _ => false
def chkB (c : SC) : S → List Stmt → Bool
  | .nil, ls => (match ls with | [] => true | _ => false)
  | .cons a r, ls => (match ls with | l :: ls => chkS c a l && chkB c r ls | _ => false)
  | _, _ => false
end
end
end Pur

/-! Pur5: what a reading is, a def's promise, its call and its body. -/
namespace Pur
open PySem PySem.Spec PyProof.Rows L2
abbrev St := L2.St

/-! ### weaker readings -/
section
variable {X : Cx}
theorem _root_.L2.PE.imp {e : Expr} {t t' : TE} (h : PE X e t) (k : ∀ σ H Q, t' σ H Q → t σ H Q) : PE X e t' := ⟨fun pins s σ H Q I q => h.run pins s σ H Q I (k σ H Q q)⟩
theorem _root_.L2.PT.imp {e : Expr} {t t' : TT} (h : PT X e t) (k : ∀ σ H Q, t' σ H Q → t σ H Q) : PT X e t' := ⟨fun pins s σ H Q I q => h.run pins s σ H Q I (k σ H Q q)⟩
theorem _root_.L2.PA.imp {e : List Expr} {t t' : TA} (h : PA X e t) (k : ∀ σ H Q, t' σ H Q → t σ H Q) : PA X e t' := ⟨fun pos pins s σ H Q I q => h.run pos pins s σ H Q I (k σ H Q q)⟩
theorem _root_.L2.PI.imp {tg e : Expr} {t t' : TI} (h : PI X tg e t) (k : ∀ σ H Q, t' σ H Q → t σ H Q) : PI X tg e t' := ⟨fun pins s σ H Q I q => h.run pins s σ H Q I (k σ H Q q)⟩
theorem _root_.L2.PS.imp {e : Stmt} {t t' : TS} (h : PS X e t) (k : ∀ D σ H, t' D σ H → t D σ H) : PS X e t' := ⟨fun pins s σ H D I q => h.run pins s σ H D I (k D σ H q)⟩
theorem _root_.L2.PSs.imp {e : List Stmt} {t t' : TS} (h : PSs X e t) (k : ∀ D σ H, t' D σ H → t D σ H) : PSs X e t' := ⟨fun pins s σ H D I q => h.run pins s σ H D I (k D σ H q)⟩
theorem _root_.L2.PG.imp {e : Expr} {t t' : TG} (h : PG X e t) (k : ∀ v σ H Q, t' v σ H Q → t v σ H Q) : PG X e t' := ⟨fun pins s σ H v u Q I r q => h.run pins s σ H v u Q I r (k v σ H Q q)⟩
theorem _root_.L2.PGs.imp {e : List Expr} {t t' : TGs} (h : PGs X e t) (k : ∀ v σ H Q, t' v σ H Q → t v σ H Q) : PGs X e t' := ⟨fun pins s σ H v u Q I r q => h.run pins s σ H v u Q I r (k v σ H Q q)⟩
end

/-! ### before and behind -/
structure Pre (K : PySem.W.Frag) (G H : Hp) (ρ : En) (σ : St) (fp : List Addr) : Prop where
  s : Same G H
  e : EnvP K G H ρ σ fp
  n : fp.Nodup
structure Post (K : PySem.W.Frag) (p : Bool) (fp : List Addr) (G H : Hp) (G' H' : Hp) (fr : List Addr) (ρ' : En) (σ' : St) (fe : List Addr) : Prop where
  ev : Ev fp G H G' H'
  env : EnvP K G' H' ρ' σ' fe
  nd : (fr ++ fe).Nodup
  new : ∀ a ∈ fr ++ fe, a ∈ fp ∨ H a = none
  pu : p = true → Ev [] G H G' H'
  pn : p = true → ∀ a ∈ fr, H a = none
section
variable {K : PySem.W.Frag} {p q : Bool} {fp f1 f2 fr fe : List Addr} {G H G1 H1 G2 H2 : Hp} {ρ ρ1 ρ2 : En} {σ σ1 σ2 : St}
theorem Pre.post (h : Pre K G H ρ σ fp) : Post K p fp G H G H [] ρ σ fp :=
  ⟨.refl h.s, h.e, h.n, fun a q => .inl q, fun _ => .refl h.s, fun _ a q => nomatch q⟩
theorem Post.pre (h : Post K p fp G H G1 H1 fr ρ1 σ1 fe) : Pre K G1 H1 ρ1 σ1 fe := ⟨h.ev.h, h.env, (List.nodup_append.mp h.nd).2.1⟩
theorem Post.dj (h : Post K p fp G H G1 H1 fr ρ1 σ1 fe) : ∀ a ∈ fr, a ∉ fe := fun a q z => (List.nodup_append.mp h.nd).2.2 a q a z rfl
theorem Post.ndr (h : Post K p fp G H G1 H1 fr ρ1 σ1 fe) : fr.Nodup := (List.nodup_append.mp h.nd).1
theorem nodup_of_sub {l1 l2 l3 l4 : List Addr} (h : (l1 ++ l2).Nodup) (n3 : l3.Nodup) (n4 : l4.Nodup) (h3 : ∀ a ∈ l3, a ∈ l1 ∨ (a ∉ l2 ∧ a ∉ l4)) (h4 : ∀ a ∈ l4, a ∈ l2 ∨ a ∉ l3) : (l3 ++ l4).Nodup := by
  obtain ⟨_, _, dj⟩ := List.nodup_append.mp h
  refine List.nodup_append.mpr ⟨n3, n4, fun a ha b hb e => ?_⟩
  subst e
  rcases h4 a hb with q | q
  · rcases h3 a ha with r | r
    · exact dj a r a q rfl
    · exact r.2 hb
  · exact q ha
/-- one behind another; what the first gave (at f1) is kept -/
theorem Post.trans (a : Post K p fp G H G1 H1 f1 ρ1 σ1 fe) (t1 : ∀ x ∈ f1, H1 x ≠ none) (b : Post K q fe G1 H1 G2 H2 f2 ρ2 σ2 fr) : Post K (p && q) fp G H G2 H2 (f1 ++ f2) ρ2 σ2 fr := by
  have te : ∀ x ∈ fe, x ∈ fp ∨ H x = none := fun x h => a.new x (List.mem_append_right _ h)
  have hn : ∀ x, H x ≠ none → x ∉ fp → H1 x ≠ none := fun x h1 h2 => by rw [(a.ev.k x h1 h2).1]; exact h1
  -- what is new to the second part is new, or of the first
  have nw : ∀ x ∈ f2 ++ fr, x ∈ fp ∨ H x = none := fun x h => by
    rcases b.new x h with z | z
    · exact te x z
    · by_cases hx : H x = none
      · exact .inr hx
      · by_cases hf : x ∈ fp
        · exact .inl hf
        · exact absurd z (hn x hx hf)
  have dj1 : ∀ x ∈ f1, x ∉ f2 ++ fr := fun x h z => by
    rcases b.new x z with y | y
    · exact a.dj x h y
    · exact t1 x h y
  refine ⟨a.ev.trans b.ev te, b.env, ?_, fun x h => ?_, fun e => ?_, fun e x h => ?_⟩
  · rw [List.append_assoc]
    refine List.nodup_append.mpr ⟨a.ndr, b.nd, fun x hx y hy e => ?_⟩
    subst e
    exact dj1 x hx hy
  · rw [List.append_assoc] at h
    rcases List.mem_append.mp h with z | z
    · exact a.new x (List.mem_append_left _ z)
    · exact nw x z
  · rw [Bool.and_eq_true] at e
    exact (a.pu e.1).trans (b.pu e.2) fun x h => nomatch h
  · rw [Bool.and_eq_true] at e
    rcases List.mem_append.mp h with z | z
    · exact a.pn e.1 x z
    · have y := b.pn e.2 x z
      cases q : H x with
      | none => rfl
      | some o => rw [(a.pu e.1).same _ _ q] at y; cases y
theorem Post.imp (a : Post K p fp G H G1 H1 fr ρ1 σ1 fe) (h : q = true → p = true) : Post K q fp G H G1 H1 fr ρ1 σ1 fe := ⟨a.ev, a.env, a.nd, a.new, fun e => a.pu (h e), fun e => a.pn (h e)⟩
/-- behind a step that touches nothing; what it gives is of fr, or new -/
theorem Post.step (a : Post K p fp G H G1 H1 fr ρ1 σ1 fe) (t : ∀ x ∈ fr, H1 x ≠ none) (e : Ev [] G1 H1 G2 H2) (n : f2.Nodup) (h : ∀ x ∈ f2, x ∈ fr ∨ H1 x = none) : Post K p fp G H G2 H2 f2 ρ1 σ1 fe := by
  have te := a.env.ne
  refine ⟨a.ev.trans e (fun x h => nomatch h), a.env.ev e (fun x h z => nomatch z), ?_, fun x hx => ?_, fun z => (a.pu z).trans e (fun x h => nomatch h), fun z x hx => ?_⟩
  · refine List.nodup_append.mpr ⟨n, (List.nodup_append.mp a.nd).2.1, fun x hx y hy z => ?_⟩
    subst z
    rcases h x hx with q | q
    · exact a.dj x q hy
    · exact te x hy q
  · rcases List.mem_append.mp hx with q | q
    · rcases h x q with r | r
      · exact a.new x (List.mem_append_left _ r)
      · by_cases hf : x ∈ fp
        · exact .inl hf
        · refine .inr ?_
          cases z : H x with
          | none => rfl
          | some o => rw [(a.ev.k x (by rw [z]; simp) hf).1, z] at r; cases r
    · exact a.new x (List.mem_append_right _ q)
  · rcases h x hx with q | q
    · exact a.pn z x q
    · cases w : H x with
      | none => rfl
      | some o => rw [(a.pu z).same _ _ w] at q; cases q
/-- a part of what it gave is let go -/
theorem Post.less (a : Post K p fp G H G1 H1 fr ρ1 σ1 fe) (t : ∀ x ∈ fr, H1 x ≠ none) (n : f2.Nodup) (h : ∀ x ∈ f2, x ∈ fr) : Post K p fp G H G1 H1 f2 ρ1 σ1 fe :=
  a.step t (.refl a.ev.h) n fun x q => .inl (h x q)
end

/-! ### a def's promise, where nothing is being shown by repr -/
abbrev Sp1 := List V → Hp → VK → Prop
structure FnR (P : Program) (w : World) (K : PySem.W.Frag) (mg : Str → Option Value) (base : Heap) (n : Nat) (f : Addr) (fd : FuncData) (ps : List Str) (sp : Sp1) : Prop where
  len : ∀ vs H Q, sp vs H Q → vs.length = ps.length
  run : ∀ (A : Around) (outer : List Env) (s : Shared) (H : Hp) (args : Args) (us : List Value) (vs : List V) (Q : VK), Room n A → A.guards = some [] → Env0 P w K mg base A outer s H →
    BindsTo s fd args (ps.zip us) → Vals vs us → sp vs H Q → codeAny (model P w) A (.call (.ref f) args) (CR CX0 outer P w H s Q E0) s

theorem callee {X : Cx} {n : Nat} {f : Addr} {fd : FuncData} {ps : List Str} {sp : Sp1} {pins : List (Addr × Obj)} {σ : St} {H : Hp} {s : Shared} {Q : VK} {us : List Value} {vs : List V}
    (F : FnR X.prog X.w X.K X.mg X.base n f fd ps sp) (hr : Room n X.A) (hg : X.A.guards = some []) (hb : Binds X.K fd ps [])
    (I : Inv X pins σ H s) (r : Vals vs us) (h : sp vs H Q) : wpAny (model X.prog X.w) X.A (call (.ref f) us) (EP X pins σ Q) X.xe s := by
  have hl : us.length = ps.length := r.length.symm.trans (F.len _ _ _ h)
  have hbs : BindsTo s fd ⟨us, []⟩ (ps.zip us) := by
    have z := hb s us I.kIn (by rw [List.append_nil]; exact hl)
    rwa [List.append_nil] at z
  refine wpAny_call ?_
  refine codeAny_mono (F.run X.A X.stack s H ⟨us, []⟩ us vs Q hr hg I.env0 hbs r h) ?_
  intro res s' end_
  match res, end_ with
  | .ok (.ret u), end_ => exact I.after end_
  | .ok .next, end_ => exact end_.elim
  | .ok .brk, end_ => exact end_.elim
  | .ok .cont, end_ => exact end_.elim
  | .error e, end_ => exact False.elim end_

theorem starEach_cons {e : Expr} {es : List Expr} {env : Env} (h : isStar e = false) : starEach (e :: es) env = (false, eval e env) :: starEach es env := by
  cases e <;> first | rfl | cases h
theorem starEach_plain {env : Env} : ∀ {es : List Expr}, es.all (fun e => !isStar e) = true → (starEach es env).any (·.1) = false
  | [], _ => rfl
  | e :: es, h => by
    simp only [List.all_cons, Bool.and_eq_true, Bool.not_eq_true'] at h
    rw [starEach_cons h.1]
    simp only [List.any_cons, Bool.false_or]
    exact starEach_plain h.2
theorem backTo_plain {pos : Pos} : ∀ {l : List (Bool × Sem Value)}, l.any (·.1) = false → (backTo pos l).any (·.1) = false := by
  intro l h
  cases l with
  | nil => rfl
  | cons a l => simpa [backTo] using h

/-- f(..) of a def of the module -/
theorem pe_fn {X : Cx} {n : Nat} {f : Addr} {fd : FuncData} {ps : List Str} {sp : Sp1} {x : Str} {e : Expr} {es : List Expr} {t : TA} {p pos : Pos} (F : FnR X.prog X.w X.K X.mg X.base n f fd ps sp) (hr : Room n X.A) (hgd : X.A.guards = some [])
    (hg : Gl X x) (hm : X.mg x = some (.ref f)) (hk : PySem.W.keepIn X.K (.ref f) = true) (hb : Binds X.K fd ps []) (ha : PA X (e :: es) t) (hs : (e :: es).all (fun e => !isStar e) = true) (hdb : (x == ("__debug__" : Str)) = false) :
    PE X (.Call (.Name x p) (e :: es) [] pos) (fun σ H Q => t σ H fun vs H1 => sp vs H1 Q) := by
  refine ⟨fun pins s σ H Q I h => wpAny_Call_Name_kw (ld_glob I hg hm ?_ hdb)⟩
  have run := ha.run pos pins s σ H _ I h
  simp only [List.all_cons, Bool.and_eq_true, Bool.not_eq_true'] at hs
  exact PySem.W.callWith_K (h₀ := X.base) I.ok.mod.kin hk (thn run fun us s1 ⟨vs, H1, I1, r, q⟩ => ⟨I1.kIn, callee F hr hgd hb I1 r q⟩) (starEach_cons hs.1) (backTo_plain (starEach_plain hs.2))
theorem pe_fn0 {X : Cx} {n : Nat} {f : Addr} {fd : FuncData} {ps : List Str} {sp : Sp1} {x : Str} {p pos : Pos} (F : FnR X.prog X.w X.K X.mg X.base n f fd ps sp) (hr : Room n X.A) (hgd : X.A.guards = some [])
    (hg : Gl X x) (hm : X.mg x = some (.ref f)) (hk : PySem.W.keepIn X.K (.ref f) = true) (hb : Binds X.K fd ps []) (hdb : (x == ("__debug__" : Str)) = false) :
    PE X (.Call (.Name x p) [] [] pos) (fun σ H Q => sp [] H Q) :=
  ⟨fun pins s σ H Q I h => wpAny_Call_Name_kw (ld_glob I hg hm (PySem.W.callWith_K0 I.kIn hk (callee (us := []) F hr hgd hb I .nil h)) hdb)⟩
end Pur

/-! Pur6: the operations on values are those of the text. -/
namespace Pur
open PySem PySem.Spec PyProof.Rows L2

section
variable {K : PySem.W.Frag} {G H G' H' : Hp}

/-! ### lists read -/
theorem Rep.seqL {f : Fl} {ds : List D} {v : V} {fp : List Addr} (s : Same G H) (h : Rep K G H (.lst f ds) v fp) : ∃ a vs g, v = .ref a ∧ SqL K H a vs ∧ RepL K G H ds vs g ∧ (∀ x ∈ g, x ∈ fp) ∧ (f ≠ .cst → H a = some (.lst vs)) ∧ (fp.Nodup → g.Nodup) ∧ (f ≠ .own → g = []) := by
  cases f with
  | own =>
    simp only [Rep] at h
    obtain ⟨a, vs, g, rfl, h1, h2, h3, rfl⟩ := h
    exact ⟨a, vs, g, rfl, SqL.of h2, h1, fun x q => List.mem_cons_of_mem _ q, fun _ => h2, fun n => (List.nodup_cons.mp n).2, fun z => absurd rfl z⟩
  | frz =>
    simp only [Rep] at h
    obtain ⟨a, vs, g, rfl, h1, h2, rfl, rfl, _⟩ := h
    exact ⟨a, vs, [], rfl, SqL.of (s _ _ h2), h1, fun x q => (by cases q), fun _ => s _ _ h2, fun n => n, fun _ => rfl⟩
  | cst =>
    simp only [Rep] at h
    obtain ⟨a, vs, g, rfl, h1, h2, rfl, rfl, _⟩ := h
    exact ⟨a, vs, [], rfl, s.seq h2, h1, fun x q => (by cases q), fun z => absurd rfl z, fun n => n, fun _ => rfl⟩
  | bor =>
    simp only [Rep] at h
    obtain ⟨a, vs, g, rfl, h1, h2, rfl, rfl⟩ := h
    exact ⟨a, vs, [], rfl, SqL.of h2, h1, fun x q => (by cases q), fun _ => h2, fun n => n, fun _ => rfl⟩
theorem RepL.length : ∀ {ds : List D} {vs : List V} {fp : List Addr}, RepL K G H ds vs fp → ds.length = vs.length
  | [], vs, fp, h => by simp only [RepL] at h; rw [h.1]; rfl
  | d :: ds, vs, fp, h => by
    simp only [RepL] at h
    obtain ⟨v, r, f1, f2, rfl, h1, h2, rfl⟩ := h
    simp [RepL.length h2]
theorem RepL.app : ∀ {ds es : List D} {vs us : List V} {f g : List Addr}, RepL K G H ds vs f → RepL K G H es us g → RepL K G H (ds ++ es) (vs ++ us) (f ++ g)
  | [], es, vs, us, f, g, h, k => by
    simp only [RepL] at h
    obtain ⟨rfl, rfl⟩ := h
    exact k
  | d :: ds, es, vs, us, f, g, h, k => by
    simp only [RepL] at h
    obtain ⟨v, r, f1, f2, rfl, h1, h2, rfl⟩ := h
    show RepL K G H (d :: (ds ++ es)) _ _
    simp only [RepL]
    exact ⟨v, r ++ us, f1, f2 ++ g, rfl, h1, RepL.app h2 k, List.append_assoc ..⟩
/-- an item, and the rest's lists -/
theorem RepL.get : ∀ {ds : List D} {vs : List V} {fp : List Addr} {i : Nat} {d : D}, RepL K G H ds vs fp → ds[i]? = some d →
    ∃ v f1 f2, vs[i]? = some v ∧ Rep K G H d v f1 ∧ RepL K G H (ds.eraseIdx i) (vs.eraseIdx i) f2 ∧ (f1 ++ f2).Perm fp
  | [], vs, fp, i, d, h, e => by simp at e
  | d0 :: ds, vs, fp, i, d, h, e => by
    simp only [RepL] at h
    obtain ⟨v, r, f1, f2, rfl, h1, h2, rfl⟩ := h
    cases i with
    | zero =>
      simp at e
      subst e
      exact ⟨v, f1, f2, rfl, h1, h2, .refl _⟩
    | succ i =>
      obtain ⟨u, g1, g2, e1, r1, r2, p⟩ := RepL.get h2 (i := i) (d := d) (by simpa using e)
      refine ⟨u, g1, f1 ++ g2, by simpa using e1, r1, ?_, (List.perm_append_comm_assoc g1 f1 g2).trans (List.Perm.append_left f1 p)⟩
      show RepL K G H (d0 :: ds.eraseIdx i) (v :: r.eraseIdx i) _
      simp only [RepL]
      exact ⟨v, _, f1, g2, rfl, h1, r2, rfl⟩
/-- an item exchanged -/
theorem RepL.set : ∀ {ds : List D} {vs : List V} {fp f0 : List Addr} {i : Nat} {d d' : D} {v' : V}, RepL K G H ds vs fp → ds[i]? = some d → Rep K G H d' v' f0 →
    ∃ f1 f2 f, (f1 ++ f2).Perm fp ∧ RepL K G H (ds.set i d') (vs.set i v') f ∧ f.Perm (f0 ++ f2) ∧ ∃ v, vs[i]? = some v ∧ Rep K G H d v f1
  | [], vs, fp, f0, i, d, d', v', h, e, k => by simp at e
  | x :: ds, vs, fp, f0, i, d, d', v', h, e, k => by
    simp only [RepL] at h
    obtain ⟨v, r, f1, f2, rfl, h1, h2, rfl⟩ := h
    cases i with
    | zero =>
      simp at e
      subst e
      refine ⟨f1, f2, f0 ++ f2, .refl _, ?_, .refl _, v, rfl, h1⟩
      show RepL K G H (d' :: ds) (v' :: r) _
      simp only [RepL]
      exact ⟨v', r, f0, f2, rfl, k, h2, rfl⟩
    | succ i =>
      obtain ⟨g1, g2, g, p, q, p2, u, e1, ru⟩ := RepL.set h2 (i := i) (by simpa using e) k
      refine ⟨g1, f1 ++ g2, f1 ++ g, (List.perm_append_comm_assoc g1 f1 g2).trans (List.Perm.append_left f1 p), ?_, (List.Perm.append_left f1 p2).trans (List.perm_append_comm_assoc f1 f0 g2), u, by simpa using e1, ru⟩
      show RepL K G H (x :: ds.set i d') (v :: r.set i v') _
      simp only [RepL]
      exact ⟨v, _, f1, g, rfl, h1, q, rfl⟩
theorem RepL.drop : ∀ {ds : List D} {vs : List V} {fp : List Addr} (n : Nat), RepL K G H ds vs fp → ∃ f1 f2, f1 ++ f2 = fp ∧ RepL K G H (ds.take n) (vs.take n) f1 ∧ RepL K G H (ds.drop n) (vs.drop n) f2
  | ds, vs, fp, 0, h => ⟨[], fp, rfl, by simp [RepL], by simpa using h⟩
  | [], vs, fp, n + 1, h => by
    simp only [RepL] at h
    obtain ⟨rfl, rfl⟩ := h
    exact ⟨[], [], rfl, by simp [RepL], by simp [RepL]⟩
  | d :: ds, vs, fp, n + 1, h => by
    simp only [RepL] at h
    obtain ⟨v, r, f1, f2, rfl, h1, h2, rfl⟩ := h
    obtain ⟨g1, g2, e, r1, r2⟩ := RepL.drop n h2
    refine ⟨f1 ++ g1, g2, by rw [List.append_assoc, e], ?_, by simpa using r2⟩
    show RepL K G H (d :: ds.take n) (v :: r.take n) _
    simp only [RepL]
    exact ⟨v, _, f1, g1, rfl, h1, r1, rfl⟩
theorem RepL.cut {ds : List D} {vs : List V} {fp : List Addr} (lo hi : Option Int) (h : RepL K G H ds vs fp) : ∃ f, List.Sublist f fp ∧ RepL K G H (cutD ds lo hi) (cutV vs lo hi) f := by
  have e : ds.length = vs.length := h.length
  obtain ⟨f1, f2, e1, _, r1⟩ := RepL.drop (HT.sIx ds.length 0 lo) h
  obtain ⟨g1, g2, e2, r2, _⟩ := RepL.drop (HT.sIx ds.length ds.length hi - HT.sIx ds.length 0 lo) r1
  refine ⟨g1, ?_, ?_⟩
  · rw [← e1, ← e2]
    exact (List.sublist_append_left g1 g2).trans (List.sublist_append_right f1 _)
  · unfold cutD cutV
    rw [← e]
    exact r2
theorem RepL.ints : ∀ {ds : List D} {vs : List V} {fp : List Addr} {ns : List Int}, RepL K G H ds vs fp → intsOf ds = some ns → vs = ns.map V.int
  | [], vs, fp, ns, h, e => by simp only [RepL] at h; simp only [intsOf, Option.some.injEq] at e; rw [h.1, ← e]; rfl
  | d :: ds, vs, fp, ns, h, e => by
    simp only [RepL] at h
    obtain ⟨v, r, f1, f2, rfl, h1, h2, rfl⟩ := h
    cases d with
    | int i =>
      simp only [intsOf, Option.map_eq_some_iff] at e
      obtain ⟨ms, e, rfl⟩ := e
      simp only [Rep] at h1
      rw [h1.1, RepL.ints h2 e]; rfl
    | _ => simp [intsOf] at e
theorem RepL.bls : ∀ {ds : List D} {vs : List V} {fp : List Addr} {ns : List Bool}, RepL K G H ds vs fp → blsOf ds = some ns → vs = ns.map V.bl
  | [], vs, fp, ns, h, e => by simp only [RepL] at h; simp only [blsOf, Option.some.injEq] at e; rw [h.1, ← e]; rfl
  | d :: ds, vs, fp, ns, h, e => by
    simp only [RepL] at h
    obtain ⟨v, r, f1, f2, rfl, h1, h2, rfl⟩ := h
    cases d with
    | bl i =>
      simp only [blsOf, Option.map_eq_some_iff] at e
      obtain ⟨ms, e, rfl⟩ := e
      simp only [Rep] at h1
      rw [h1.1, RepL.bls h2 e]; rfl
    | _ => simp [blsOf] at e
theorem RepL.of_ints : ∀ (ns : List Int), RepL K G H (ns.map D.int) (ns.map V.int) []
  | [] => by simp [RepL]
  | n :: ns => by
    show RepL K G H (.int n :: ns.map D.int) _ _
    simp only [RepL]
    exact ⟨.int n, ns.map V.int, [], [], rfl, by simp [Rep], RepL.of_ints ns, rfl⟩

/-! ### data by their text -/
mutual
theorem Rep.dp : ∀ {d : D} {v : V} {fp : List Addr} {n : Nat}, Same G H → lay n d = true → Rep K G H d v fp → Dp K H v (py d)
  | .non, v, fp, n, s, l, h => by simp only [Rep] at h; rw [h.1]; exact .non
  | .bl b, v, fp, n, s, l, h => by simp only [Rep] at h; rw [h.1]; exact .bl b
  | .int i, v, fp, n, s, l, h => by simp only [Rep] at h; rw [h.1]; exact .int i
  | .str x, v, fp, n, s, l, h => by simp only [Rep] at h; rw [h.1]; exact .str x
  | .rs x, v, fp, n, s, l, h => by simp [lay] at l
  | .tup ds, v, fp, n, s, l, h => by
    simp only [Rep] at h
    obtain ⟨a, vs, rfl, h1, h2⟩ := h
    cases n with
    | zero => simp [lay] at l
    | succ n => exact .tup (isTup s h1) (RepL.dp s (by simpa [lay] using l) h2)
  | .lst f ds, v, fp, n, s, l, h => by
    obtain ⟨a, vs, g, rfl, h1, h2, _⟩ := h.seqL s
    cases n with
    | zero => simp [lay] at l
    | succ n => exact .lst h1 (RepL.dp s (by simpa [lay] using l) h2)
theorem RepL.dp : ∀ {ds : List D} {vs : List V} {fp : List Addr} {n : Nat}, Same G H → layL n ds = true → RepL K G H ds vs fp → DpAll K H vs (pyL ds)
  | [], vs, fp, n, s, l, h => by simp only [RepL] at h; rw [h.1]; exact .nil
  | d :: ds, vs, fp, n, s, l, h => by
    simp only [RepL] at h
    obtain ⟨v, r, f1, f2, rfl, h1, h2, rfl⟩ := h
    simp only [layL, Bool.and_eq_true] at l
    exact .cons (Rep.dp s l.1 h1) (RepL.dp s l.2 h2)
end
mutual
theorem lay_ok : ∀ {d : D} {n : Nat}, lay n d = true → (py d).canLay0 = true ∧ (py d).depth ≤ n ∧ (py d).hasDict = false
  | .non, n, l => by simp [py, PyData.canLay0, PyData.depth, PyData.hasDict]
  | .bl b, n, l => by simp [py, PyData.canLay0, PyData.depth, PyData.hasDict]
  | .int i, n, l => by simp [py, PyData.canLay0, PyData.depth, PyData.hasDict]
  | .str x, n, l => by
    simp only [lay] at l
    exact ⟨l, by simp [py, PyData.depth], by simp [py, PyData.hasDict]⟩
  | .rs x, n, l => by simp [lay] at l
  | .tup ds, n, l => by
    cases n with
    | zero => simp [lay] at l
    | succ n =>
      obtain ⟨h1, h2, h3⟩ := layL_ok (ds := ds) (n := n) (by simpa [lay] using l)
      simp only [py, PyData.canLay0, PyData.depth, PyData.hasDict]
      exact ⟨h1, by omega, h3⟩
  | .lst f ds, n, l => by
    cases n with
    | zero => simp [lay] at l
    | succ n =>
      obtain ⟨h1, h2, h3⟩ := layL_ok (ds := ds) (n := n) (by simpa [lay] using l)
      simp only [py, PyData.canLay0, PyData.depth, PyData.hasDict]
      exact ⟨h1, by omega, h3⟩
theorem layL_ok : ∀ {ds : List D} {n : Nat}, layL n ds = true → PyData.canLayAll0 (pyL ds) = true ∧ PyData.depthAll (pyL ds) ≤ n ∧ PyData.hasDictAll (pyL ds) = false
  | [], n, l => by simp [pyL, PyData.canLayAll0, PyData.depthAll, PyData.hasDictAll]
  | d :: ds, n, l => by
    simp only [layL, Bool.and_eq_true] at l
    obtain ⟨a1, a2, a3⟩ := lay_ok l.1
    obtain ⟨b1, b2, b3⟩ := layL_ok l.2
    simp only [pyL, PyData.canLayAll0, PyData.depthAll, PyData.hasDictAll, a1, b1, a3, b3]
    exact ⟨rfl, by omega, rfl⟩
end
theorem lay_shaped {d : D} {n : Nat} (l : lay n d = true) (hn : n ≤ 64) : SeqAt.shaped (py d) = true := by
  obtain ⟨h1, h2, _⟩ := lay_ok l
  unfold SeqAt.shaped
  rw [h1, decide_eq_true (by omega : (py d).depth ≤ 64)]; rfl
theorem layL_shaped {ds : List D} {n : Nat} (l : layL n ds = true) (hn : n ≤ 63) : SeqAt.shaped (.list (pyL ds)) = true := by
  obtain ⟨h1, h2, _⟩ := layL_ok l
  have e1 : (PyData.list (pyL ds)).canLay0 = true := by simp only [PyData.canLay0]; exact h1
  have e2 : (PyData.list (pyL ds)).depth ≤ 64 := by simp only [PyData.depth]; omega
  unfold SeqAt.shaped
  rw [e1, decide_eq_true e2]; rfl
mutual
theorem pdEq_eq : ∀ {a b : PyData}, pdEq a b = true → a = b
  | .none, b, h => by cases b <;> simp [pdEq] at h ⊢
  | .bool x, b, h => by cases b <;> simp [pdEq] at h ⊢; exact h
  | .int x, b, h => by cases b <;> simp [pdEq] at h ⊢; exact h
  | .str x, b, h => by cases b <;> simp [pdEq] at h ⊢; exact h
  | .list xs, b, h => by
    cases b <;> simp [pdEq] at h ⊢
    exact pdEqL_eq h
  | .tuple xs, b, h => by
    cases b <;> simp [pdEq] at h ⊢
    exact pdEqL_eq h
  | .dict xs, b, h => by cases b <;> simp [pdEq] at h
theorem pdEqL_eq : ∀ {a b : List PyData}, pdEqL a b = true → a = b
  | [], b, h => by cases b <;> simp [pdEqL] at h ⊢
  | x :: xs, b, h => by
    cases b with
    | nil => simp [pdEqL] at h
    | cons y ys =>
      simp only [pdEqL, Bool.and_eq_true] at h
      rw [pdEq_eq h.1, pdEqL_eq h.2]
end
end

/-! ### what an operation's rule must give -/
def OkBin (K : PySem.W.Frag) (r : R2) (f : D → D → Option D) : Prop :=
  ∀ (G H : Hp) (x y : D) (u v : V) (f1 f2 : List Addr) (d : D) (Q : VK), Same G H → Rep K G H x u f1 → Rep K G H y v f2 → (f1 ++ f2).Nodup → f x y = some d →
    (∀ z G' H' fr, Ev [] G H G' H' → Rep K G' H' d z fr → fr.Nodup → (∀ a ∈ fr, a ∈ f1 ++ f2 ∨ H a = none) → Q z H') → r u v H Q
def OkCall (K : PySem.W.Frag) (r : List V → Hp → VK → Prop) (f : List D → Option D) : Prop :=
  ∀ (G H : Hp) (ds : List D) (vs : List V) (fp : List Addr) (d : D) (Q : VK), Same G H → RepL K G H ds vs fp → fp.Nodup → f ds = some d →
    (∀ z G' H' fr, Ev [] G H G' H' → Rep K G' H' d z fr → fr.Nodup → (∀ a ∈ fr, a ∈ fp ∨ H a = none) → Q z H') → r vs H Q
section
variable {K : PySem.W.Frag} {G H : Hp} {Q : VK} {f12 : List Addr}
/-- a flat answer -/
theorem flat_q {d : D} {z : V} (s : Same G H) (h : ∀ z G' H' fr, Ev [] G H G' H' → Rep K G' H' d z fr → fr.Nodup → (∀ a ∈ fr, a ∈ f12 ∨ H a = none) → Q z H') (r : Rep K G H d z []) : Q z H :=
  h z G H [] (.refl s) r .nil (fun a q => by cases q)
/-- a new object laid: a shared one -/
theorem ev_new {p : Addr} {o : HO} (s : Same G H) (hp : H p = none) : Ev [] G H (upd G p o) (upd H p o) := by
  refine ⟨fun b u q => ?_, fun b u q => ?_, fun a ha _ => ?_⟩
  · rw [upd_ne (ne_of_none (s _ _ q) hp)]; exact q
  · by_cases e : b = p
    · subst e; rw [upd_same] at q ⊢; exact q
    · rw [upd_ne e] at q ⊢; exact s _ _ q
  · have e : a ≠ p := fun z => by subst z; exact ha hp
    exact ⟨upd_ne e, upd_ne e⟩
/-- .. an own one -/
theorem ev_own {p : Addr} {o : HO} (s : Same G H) (hp : H p = none) : Ev [] G H G (upd H p o) := by
  refine ⟨Same.refl _, fun b u q => ?_, fun a ha _ => ?_⟩
  · rw [upd_ne (ne_of_none (s _ _ q) hp)]; exact s _ _ q
  · have e : a ≠ p := fun z => by subst z; exact ha hp
    exact ⟨upd_ne e, rfl⟩
theorem Same.none {a : Addr} (s : Same G H) (h : H a = none) : G a = none := by
  cases q : G a with
  | none => rfl
  | some o => rw [s _ _ q] at h; cases h
/-- a new tuple of items that are represented -/
theorem tup_q {ds : List D} {vs : List V} {g : List Addr} {p : Addr} (s : Same G H) (hr : RepL K G H ds vs g) (hp : H p = none) (hg : g.Nodup) (hs : ∀ a ∈ g, a ∈ f12 ∨ H a = none)
    (h : ∀ z G' H' fr, Ev [] G H G' H' → Rep K G' H' (.tup ds) z fr → fr.Nodup → (∀ a ∈ fr, a ∈ f12 ∨ H a = none) → Q z H') : Q (.ref p) (upd H p (.tup vs)) := by
  have e : Ev [] G H (upd G p (.tup vs)) (upd H p (.tup vs)) := ev_new s hp
  refine h _ _ _ g e ?_ hg hs
  simp only [Rep]
  exact ⟨p, vs, rfl, upd_same, hr.ev e (fun a q z => nomatch z) (.inr rfl)⟩
/-- a new own list -/
theorem lst_q {ds : List D} {vs : List V} {g : List Addr} {p : Addr} (s : Same G H) (hr : RepL K G H ds vs g) (hp : H p = none) (hg : g.Nodup) (hs : ∀ a ∈ g, a ∈ f12 ∨ H a = none)
    (h : ∀ z G' H' fr, Ev [] G H G' H' → Rep K G' H' (.lst .own ds) z fr → fr.Nodup → (∀ a ∈ fr, a ∈ f12 ∨ H a = none) → Q z H') : Q (.ref p) (upd H p (.lst vs)) := by
  have e : Ev [] G H G (upd H p (.lst vs)) := ev_own s hp
  refine h _ _ _ (p :: g) e ?_ (List.nodup_cons.mpr ⟨fun z => hr.ne p z hp, hg⟩) fun a q => ?_
  · simp only [Rep]
    exact ⟨p, vs, g, rfl, hr.ev e (fun a q z => nomatch z) (.inr rfl), upd_same, Same.none s hp, rfl⟩
  · rcases List.mem_cons.mp q with z | z
    · rw [z]; exact .inr hp
    · exact hs a z

theorem R2.or_l {r r' : R2} {f : D → D → Option D} (h : OkBin K r f) : OkBin K (fun x y H Q => r x y H Q ∨ r' x y H Q) f :=
  fun G H x y u v f1 f2 d Q s a b n e q => .inl (h G H x y u v f1 f2 d Q s a b n e q)
theorem R2.or_r {r r' : R2} {f : D → D → Option D} (h : OkBin K r' f) : OkBin K (fun x y H Q => r x y H Q ∨ r' x y H Q) f :=
  fun G H x y u v f1 f2 d Q s a b n e q => .inr (h G H x y u v f1 f2 d Q s a b n e q)
end

section
variable {X : Cx}
theorem add_ok : ∃ r, OpR X (binaryOp .Add) r ∧ OkBin X.K r addS := by
  refine ⟨_, (op_add.or op_add_str).or (op_catA.or op_cat), ?_⟩
  intro G H x y u v f1 f2 d Q s hx hy n e q
  unfold addS at e
  split at e
  · rename_i i j
    simp only [Rep] at hx hy
    obtain ⟨⟨rfl, rfl⟩, rfl, rfl⟩ := And.intro hx hy
    cases e
    exact .inl (.inl ⟨i, j, rfl, rfl, flat_q s q (by simp [Rep])⟩)
  · rename_i a b
    simp only [Rep] at hx hy
    obtain ⟨⟨rfl, rfl⟩, rfl, rfl⟩ := And.intro hx hy
    split at e
    · rename_i hl
      cases e
      exact .inl (.inr ⟨a, b, rfl, rfl, hl, flat_q s q (by simp [Rep])⟩)
    · cases e
  · rename_i xs ys
    split at e
    · rename_i hl
      cases e
      simp only [Rep] at hx hy
      obtain ⟨a, vs, rfl, hx1, hx2⟩ := hx
      obtain ⟨b, us, rfl, hy1, hy2⟩ := hy
      have l1 := hx2.length
      have l2 := hy2.length
      refine .inr (.inl ⟨a, b, vs, us, rfl, rfl, isTup s hx1, isTup s hy1, by omega, fun z => ?_, fun z1 z2 => ?_, fun z1 z2 p hp => ?_⟩)
      · subst z
        have : xs = [] := List.length_eq_zero_iff.mp (by simpa using l1)
        subst this
        simp only [RepL] at hx2
        obtain ⟨_, rfl⟩ := hx2
        exact q _ G H f2 (.refl s) (by simp only [List.nil_append, Rep]; exact ⟨b, us, rfl, hy1, hy2⟩) (by simpa using n) fun a z => .inl (by simpa using z)
      · subst z2
        have : ys = [] := List.length_eq_zero_iff.mp (by simpa using l2)
        subst this
        simp only [RepL] at hy2
        obtain ⟨_, rfl⟩ := hy2
        exact q _ G H f1 (.refl s) (by simp only [List.append_nil, Rep]; exact ⟨a, vs, rfl, hx1, hx2⟩) (by simpa using n) fun a z => .inl (by simpa using z)
      · exact tup_q s (hx2.app hy2) hp n (fun a z => .inl z) q
    · cases e
  · rename_i f xs g ys
    split at e
    · rename_i hl
      cases e
      obtain ⟨a, vs, g1, rfl, _, hx2, hx3, hx4, hx5, _⟩ := hx.seqL s
      obtain ⟨b, us, g2, rfl, _, hy2, hy3, hy4, hy5, _⟩ := hy.seqL s
      have l1 := hx2.length
      have l2 := hy2.length
      obtain ⟨n1, n2, n3⟩ := List.nodup_append.mp n
      exact .inr (.inr ⟨a, b, vs, us, rfl, rfl, hx4 hl.1, hy4 hl.2.1, by omega, fun p hp => lst_q s (hx2.app hy2) hp
        (List.nodup_append.mpr ⟨hx5 n1, hy5 n2, fun a ha b hb => n3 a (hx3 a ha) b (hy3 b hb)⟩)
        (fun a z => .inl (by rcases List.mem_append.mp z with z | z; exact List.mem_append_left _ (hx3 a z); exact List.mem_append_right _ (hy3 a z))) q⟩)
    · cases e
  · cases e
theorem ints_bin {op : Operator} {C : Int → Int → Prop} {g : Int → Int → Int} {f : D → D → Option D} (h : OpR X (binaryOp op) (rI C fun i j => .int (g i j)))
    (hf : ∀ x y d, f x y = some d → ∃ i j, x = .int i ∧ y = .int j ∧ C i j ∧ d = .int (g i j)) : ∃ r, OpR X (binaryOp op) r ∧ OkBin X.K r f := by
  refine ⟨_, h, ?_⟩
  intro G H x y u v f1 f2 d Q s hx hy n e q
  obtain ⟨i, j, rfl, rfl, c, rfl⟩ := hf x y d e
  simp only [Rep] at hx hy
  obtain ⟨⟨rfl, rfl⟩, rfl, rfl⟩ := And.intro hx hy
  exact ⟨i, j, rfl, rfl, c, flat_q s q (by simp [Rep])⟩
theorem opR_imp {f : Value → Value → Sem Value} {r r' : R2} (h : OpR X f r) (k : ∀ x y H Q, r' x y H Q → r x y H Q) : OpR X f r' :=
  fun pins s σ H x y v u Q I rx ry q => h pins s σ H x y v u Q I rx ry (k x y H Q q)
theorem bin_ok (o : Bo) : ∃ r, OpR X (binaryOp (boOp o)) r ∧ OkBin X.K r (binS o) := by
  cases o with
  | add => exact add_ok
  | sub =>
    refine ints_bin (C := fun _ _ => True) (g := fun i j => i - j) (opR_imp op_sub fun x y H Q ⟨i, j, a, b, _, q⟩ => ⟨i, j, a, b, q⟩) fun x y d e => ?_
    unfold binS at e
    split at e <;> first | (cases e; exact ⟨_, _, rfl, rfl, trivial, rfl⟩) | (exfalso; simp_all; done) | skip
    all_goals simp_all
  | mul =>
    have hm : OpR X (binaryOp .Mult) (rI (fun i j => mulOk i j = true) fun i j => .int (i * j)) := by
      refine opR_imp (op_mul.or op_mulW) fun x y H Q ⟨i, j, a, b, c, q⟩ => ?_
      unfold mulOk small64 at c
      simp only [Bool.or_eq_true, decide_eq_true_eq] at c
      rcases c with c | c
      · exact .inl ⟨i, j, a, b, c, q⟩
      · exact .inr ⟨i, j, a, b, c, q⟩
    refine ints_bin hm fun x y d e => ?_
    cases x <;> cases y <;> simp only [binS] at e <;> first | (cases e; done) | skip
    split at e
    · rename_i c
      cases e
      exact ⟨_, _, rfl, rfl, c, rfl⟩
    · cases e
  | fdiv =>
    have hm : OpR X (binaryOp .FloorDiv) (rI (fun i j => divOk j = true) fun i j => .int (i.fdiv j)) := by
      refine opR_imp (op_fdivN.or op_fdivW) fun x y H Q ⟨i, j, a, b, c, q⟩ => ?_
      unfold divOk at c
      simp only [Bool.or_eq_true, decide_eq_true_eq] at c
      rcases c with c | c
      · exact .inl ⟨i, j, a, b, c, q⟩
      · exact .inr ⟨i, j, a, b, c, by
          show Q (V.int (i / j)) H
          rw [← Int.fdiv_eq_ediv_of_nonneg i (by omega)]; exact q⟩
    refine ints_bin hm fun x y d e => ?_
    cases x <;> cases y <;> simp only [binS] at e <;> first | (cases e; done) | skip
    split at e
    · rename_i c
      cases e
      exact ⟨_, _, rfl, rfl, c, rfl⟩
    · cases e
  | mod =>
    refine ints_bin op_modN fun x y d e => ?_
    cases x <;> cases y <;> simp only [binS] at e <;> first | (cases e; done) | skip
    split at e
    · cases e
    · rename_i c
      cases e
      exact ⟨_, _, rfl, rfl, c, rfl⟩
  | pow =>
    refine ints_bin op_pow fun x y d e => ?_
    cases x <;> cases y <;> simp only [binS] at e <;> first | (cases e; done) | skip
    split at e
    · rename_i c
      cases e
      exact ⟨_, _, rfl, rfl, c, rfl⟩
    · cases e
end
end Pur

/-! Pur7: comparisons, built-ins, items, slices. -/
namespace Pur
open PySem PySem.Spec PyProof.Rows L2
section
variable {K : PySem.W.Frag} {G H : Hp}

theorem Rep.isNon {d : D} {v : V} {fp : List Addr} (h : Rep K G H d v fp) : isNon d = decide (v = .non) := by
  cases d with
  | non => simp only [Rep] at h; rw [h.1]; rfl
  | bl b => simp only [Rep] at h; rw [h.1]; rfl
  | int b => simp only [Rep] at h; rw [h.1]; rfl
  | str b => simp only [Rep] at h; rw [h.1]; rfl
  | rs b => simp only [Rep] at h; rw [h.1]; rfl
  | tup ds => simp only [Rep] at h; obtain ⟨a, vs, rfl, _⟩ := h; rfl
  | lst f ds => simp only [Rep] at h; obtain ⟨a, vs, g, rfl, _⟩ := h; rfl

theorem ints_cmp {X : Cx} {op : CmpOp} {g : Int → Int → Bool} {f : D → D → Option D} (h : OpR X (compareOp op) (rI0 fun i j => .bl (g i j)))
    (hf : ∀ x y d, f x y = some d → ∃ i j, x = .int i ∧ y = .int j ∧ d = .bl (g i j)) : ∃ r, OpR X (compareOp op) r ∧ OkBin X.K r f := by
  refine ⟨_, h, ?_⟩
  intro G H x y u v f1 f2 d Q s hx hy n e q
  obtain ⟨i, j, rfl, rfl, rfl⟩ := hf x y d e
  simp only [Rep] at hx hy
  obtain ⟨⟨rfl, rfl⟩, rfl, rfl⟩ := And.intro hx hy
  exact ⟨i, j, rfl, rfl, flat_q s q (by simp [Rep])⟩

theorem eqS_cases {x y : D} {b : Bool} (h : eqS x y = some b) : (∃ a, x = .rs a ∧ y = .rs a ∧ b = true) ∨ (lay 60 x = true ∧ lay 60 y = true ∧ b = eqD x y) := by
  unfold eqS at h
  split at h
  · split at h
    · rename_i a c e
      cases h
      rw [pdEq_eq e]
      exact .inl ⟨_, rfl, rfl, rfl⟩
    · cases h
  · split at h
    · rename_i e
      rw [Bool.and_eq_true] at e
      cases h
      exact .inr ⟨e.1, e.2, rfl⟩
    · cases h
theorem eqv_some {X : Cx} (hu : X.A.units + 64 < cLine) : ∃ r, OpR X (compareOp .Eq) r ∧ OkBin X.K r (fun x y => (eqS x y).map D.bl) := by
  refine ⟨_, (op_eqD hu).or op_eq, ?_⟩
  intro G H x y u v f1 f2 d Q s hx hy n e q
  obtain ⟨b, e1, rfl⟩ := Option.map_eq_some_iff.mp e
  rcases eqS_cases e1 with ⟨a, rfl, rfl, rfl⟩ | ⟨l1, l2, rfl⟩
  · simp only [Rep] at hx hy
    obtain ⟨⟨rfl, rfl⟩, rfl, rfl⟩ := And.intro hx hy
    exact .inr ⟨rfl, by rw [decide_eq_true rfl]; exact flat_q s q (by simp [Rep])⟩
  · exact .inl ⟨_, _, hx.dp s l1, hy.dp s l2, lay_shaped l1 (by decide), lay_shaped l2 (by decide), flat_q s q (by simp [Rep, eqD])⟩
theorem nev_some {X : Cx} (hu : X.A.units + 64 < cLine) : ∃ r, OpR X (compareOp .NotEq) r ∧ OkBin X.K r (fun x y => (eqS x y).map fun b => D.bl (!b)) := by
  refine ⟨_, (op_neD hu).or op_ne, ?_⟩
  intro G H x y u v f1 f2 d Q s hx hy n e q
  obtain ⟨b, e1, rfl⟩ := Option.map_eq_some_iff.mp e
  rcases eqS_cases e1 with ⟨a, rfl, rfl, rfl⟩ | ⟨l1, l2, rfl⟩
  · simp only [Rep] at hx hy
    obtain ⟨⟨rfl, rfl⟩, rfl, rfl⟩ := And.intro hx hy
    exact .inr ⟨rfl, by rw [decide_eq_true rfl]; exact flat_q s q (by simp [Rep])⟩
  · exact .inl ⟨_, _, hx.dp s l1, hy.dp s l2, lay_shaped l1 (by decide), lay_shaped l2 (by decide), flat_q s q (by simp [Rep, eqD])⟩
theorem any_py {x : D} : ∀ ys : List D, ((pyL ys).any fun z => PyData.eqv z (py x)) = ys.any fun z => eqD z x
  | [] => rfl
  | y :: ys => by
    simp only [pyL, List.any_cons, any_py ys]; rfl
def rInT (K : PySem.W.Frag) : R2 := fun x y H Q => ∃ d ds, Dp K H x d ∧ Dp K H y (.tuple ds) ∧ SeqAt.shaped d = true ∧ SeqAt.shaped (.tuple ds) = true ∧ Q (.bl (ds.any fun z => PyData.eqv z d)) H
def rNotInT (K : PySem.W.Frag) : R2 := fun x y H Q => ∃ d ds, Dp K H x d ∧ Dp K H y (.tuple ds) ∧ SeqAt.shaped d = true ∧ SeqAt.shaped (.tuple ds) = true ∧ Q (.bl (!ds.any fun z => PyData.eqv z d)) H
theorem op_inT {X : Cx} (hu : X.A.units + 65 < cLine) : OpR X (compareOp .In) (rInT X.K) := fun pins s σ H x y v u Q I rx ry ⟨d, ds, hd, he, sd, se, q⟩ =>
  let ⟨_, r1⟩ := Dp.reads I d x v hd rx
  let ⟨_, r2⟩ := Dp.reads I (.tuple ds) y u he ry
  SeqAt.in_tuple_reads r2 r1 (SeqAt.canLay_of_shaped se) (SeqAt.canLay_of_shaped sd) (room_in_shaped sd hu) ⟨.bl _, H, I, rfl, q⟩
theorem op_notInT {X : Cx} (hu : X.A.units + 65 < cLine) : OpR X (compareOp .NotIn) (rNotInT X.K) := fun pins s σ H x y v u Q I rx ry ⟨d, ds, hd, he, sd, se, q⟩ =>
  let ⟨_, r1⟩ := Dp.reads I d x v hd rx
  let ⟨_, r2⟩ := Dp.reads I (.tuple ds) y u he ry
  SeqAt.notIn_tuple_reads r2 r1 (SeqAt.canLay_of_shaped se) (SeqAt.canLay_of_shaped sd) (room_in_shaped sd hu) ⟨.bl _, H, I, rfl, q⟩
theorem cmp_ok {X : Cx} (hu : X.A.units + 65 < cLine) (o : Co) : ∃ r, OpR X (compareOp (coOp o)) r ∧ OkBin X.K r (cmpS o) := by
  cases o with
  | lt => exact ints_cmp op_lt fun x y d e => by cases x <;> cases y <;> simp only [cmpS, Option.some.injEq, reduceCtorEq] at e <;> exact ⟨_, _, rfl, rfl, e.symm⟩
  | le => exact ints_cmp op_le fun x y d e => by cases x <;> cases y <;> simp only [cmpS, Option.some.injEq, reduceCtorEq] at e <;> exact ⟨_, _, rfl, rfl, e.symm⟩
  | gt => exact ints_cmp op_gt fun x y d e => by cases x <;> cases y <;> simp only [cmpS, Option.some.injEq, reduceCtorEq] at e <;> exact ⟨_, _, rfl, rfl, e.symm⟩
  | ge => exact ints_cmp op_ge fun x y d e => by cases x <;> cases y <;> simp only [cmpS, Option.some.injEq, reduceCtorEq] at e <;> exact ⟨_, _, rfl, rfl, e.symm⟩
  | eq =>
    obtain ⟨r, h, k⟩ := eqv_some (X := X) (by omega)
    exact ⟨r, h, fun G H x y u v f1 f2 d Q s hx hy n e q => k G H x y u v f1 f2 d Q s hx hy n (by cases x <;> cases y <;> exact e) q⟩
  | ne =>
    obtain ⟨r, h, k⟩ := nev_some (X := X) (by omega)
    exact ⟨r, h, fun G H x y u v f1 f2 d Q s hx hy n e q => k G H x y u v f1 f2 d Q s hx hy n (by cases x <;> cases y <;> exact e) q⟩
  | is =>
    refine ⟨_, op_isN.or op_isBl, ?_⟩
    intro G H x y u v f1 f2 d Q s hx hy n e q
    cases y with
    | non =>
      have e : cmpS .is x .non = some (.bl (isNon x)) := by cases x <;> rfl
      rename_i e0
      rw [e] at e0
      cases e0
      simp only [Rep] at hy
      obtain ⟨rfl, rfl⟩ := hy
      refine .inl ⟨rfl, ?_⟩
      rw [← hx.isNon]
      exact flat_q s q (by simp [Rep])
    | bl b =>
      cases x <;> simp only [cmpS, Option.some.injEq, reduceCtorEq] at e
      rename_i a
      simp only [Rep] at hx hy
      obtain ⟨⟨rfl, rfl⟩, rfl, rfl⟩ := And.intro hx hy
      rw [← e] at q
      exact .inr ⟨a, b, rfl, rfl, flat_q s q (by simp [Rep])⟩
    | _ => cases x <;> simp [cmpS] at e
  | isnot =>
    refine ⟨_, op_notN.or op_notBl, ?_⟩
    intro G H x y u v f1 f2 d Q s hx hy n e q
    cases y with
    | non =>
      have e : cmpS .isnot x .non = some (.bl (!isNon x)) := by cases x <;> rfl
      rename_i e0
      rw [e] at e0
      cases e0
      simp only [Rep] at hy
      obtain ⟨rfl, rfl⟩ := hy
      refine .inl ⟨rfl, ?_⟩
      rw [← hx.isNon]
      exact flat_q s q (by simp [Rep])
    | bl b =>
      cases x <;> simp only [cmpS, Option.some.injEq, reduceCtorEq] at e
      rename_i a
      simp only [Rep] at hx hy
      obtain ⟨⟨rfl, rfl⟩, rfl, rfl⟩ := And.intro hx hy
      rw [← e] at q
      exact .inr ⟨a, b, rfl, rfl, flat_q s q (by simp [Rep])⟩
    | _ => cases x <;> simp [cmpS] at e
  | in_ =>
    refine ⟨_, (op_inD hu).or (op_inT hu), ?_⟩
    intro G H x y u v f1 f2 d Q s hx hy n e q
    cases y with
    | lst f ys =>
      have e : cmpS .in_ x (.lst f ys) = if lay 60 x && layL 59 ys then some (.bl (ys.any fun z => eqD z x)) else none := by cases x <;> rfl
      rename_i e0
      rw [e] at e0
      split at e0
      · rename_i l
        rw [Bool.and_eq_true] at l
        cases e0
        refine .inl ⟨py x, pyL ys, hx.dp s l.1, hy.dp s (n := 60) (by simpa [lay] using l.2), lay_shaped l.1 (by decide), layL_shaped l.2 (by decide), ?_⟩
        rw [any_py]
        exact flat_q s q (by simp [Rep])
      · cases e0
    | tup ys =>
      have e : cmpS .in_ x (.tup ys) = if lay 60 x && layL 59 ys then some (.bl (ys.any fun z => eqD z x)) else none := by cases x <;> rfl
      rename_i e0
      rw [e] at e0
      split at e0
      · rename_i l
        rw [Bool.and_eq_true] at l
        cases e0
        refine .inr ⟨py x, pyL ys, hx.dp s l.1, hy.dp s (n := 60) (by simpa [lay] using l.2), lay_shaped l.1 (by decide), layL_shaped l.2 (by decide), ?_⟩
        rw [any_py]
        exact flat_q s q (by simp [Rep])
      · cases e0
    | _ => cases x <;> simp [cmpS] at e
  | notin =>
    refine ⟨_, (op_notInD hu).or (op_notInT hu), ?_⟩
    intro G H x y u v f1 f2 d Q s hx hy n e q
    cases y with
    | lst f ys =>
      have e : cmpS .notin x (.lst f ys) = if lay 60 x && layL 59 ys then some (.bl (!ys.any fun z => eqD z x)) else none := by cases x <;> rfl
      rename_i e0
      rw [e] at e0
      split at e0
      · rename_i l
        rw [Bool.and_eq_true] at l
        cases e0
        refine .inl ⟨py x, pyL ys, hx.dp s l.1, hy.dp s (n := 60) (by simpa [lay] using l.2), lay_shaped l.1 (by decide), layL_shaped l.2 (by decide), ?_⟩
        rw [any_py]
        exact flat_q s q (by simp [Rep])
      · cases e0
    | tup ys =>
      have e : cmpS .notin x (.tup ys) = if lay 60 x && layL 59 ys then some (.bl (!ys.any fun z => eqD z x)) else none := by cases x <;> rfl
      rename_i e0
      rw [e] at e0
      split at e0
      · rename_i l
        rw [Bool.and_eq_true] at l
        cases e0
        refine .inr ⟨py x, pyL ys, hx.dp s l.1, hy.dp s (n := 60) (by simpa [lay] using l.2), lay_shaped l.1 (by decide), layL_shaped l.2 (by decide), ?_⟩
        rw [any_py]
        exact flat_q s q (by simp [Rep])
      · cases e0
    | _ => cases x <;> simp [cmpS] at e

/-! ### index, count -/
theorem idxOf_spec {x : D} : ∀ {ys : List D} {j : Nat}, idxOf x ys = some j → ∃ z, (pyL ys)[j]? = some z ∧ PyData.eqv z (py x) = true ∧ ∀ (m : Nat) (z' : PyData), m < j → (pyL ys)[m]? = some z' → PyData.eqv z' (py x) = false
  | [], j, h => by simp [idxOf] at h
  | y :: ys, j, h => by
    unfold idxOf at h
    split at h
    · rename_i e
      cases h
      exact ⟨py y, rfl, e, fun m z' hm => nomatch hm⟩
    · rename_i e
      obtain ⟨i, hi, rfl⟩ := Option.map_eq_some_iff.mp h
      obtain ⟨z, h1, h2, h3⟩ := idxOf_spec hi
      refine ⟨z, by simpa [pyL] using h1, h2, fun m z' hm hz => ?_⟩
      cases m with
      | zero =>
        simp only [pyL, List.getElem?_cons_zero, Option.some.injEq] at hz
        subst hz
        have e' : ¬ (PyData.eqv (py y) (py x) = true) := e
        simpa using e'
      | succ m => exact h3 m z' (by omega) (by simpa [pyL] using hz)
theorem me_ok {X : Cx} (hu : X.A.units + 65 < cLine) (m : Me) : ∃ (id : String) (r : V → List V → Hp → VK → Prop), Slot "list" (meNm m) id ∧ typeOf (.builtin id) = pure (.type "method_descriptor") ∧ MtR X id r ∧ OkBin X.K (fun x y H Q => r x [y] H Q) (meS m) := by
  cases m with
  | index =>
    refine ⟨_, _, PySem.F.slot_list_index, PySem.F.type_list_index, mt_indexD hu, ?_⟩
    intro G H x y u v f1 f2 d Q s hx hy n e q
    cases x with
    | lst f xs =>
      simp only [meS] at e
      split at e
      · rename_i l
        rw [Bool.and_eq_true] at l
        obtain ⟨j, hj, rfl⟩ := Option.map_eq_some_iff.mp e
        obtain ⟨z, h1, h2, h3⟩ := idxOf_spec hj
        have dx := hx.dp s (n := 60) (by simpa [lay] using l.2)
        obtain ⟨a, vs, g, rfl, _⟩ := hx.seqL s
        exact ⟨a, v, py y, pyL xs, j, z, rfl, rfl, dx, hy.dp s l.1, layL_shaped l.2 (by decide), lay_shaped l.1 (by decide), h1, h2, h3, flat_q s q (by simp [Rep])⟩
      · cases e
    | _ => simp [meS] at e
  | count =>
    refine ⟨_, _, PySem.F.slot_list_count, PySem.F.type_list_count, mt_lcount, ?_⟩
    intro G H x y u v f1 f2 d Q s hx hy n e q
    cases x with
    | lst f xs =>
      cases y with
      | int k =>
        simp only [meS] at e
        obtain ⟨ns, hn, rfl⟩ := Option.map_eq_some_iff.mp e
        simp only [Rep] at hy
        obtain ⟨rfl, rfl⟩ := hy
        obtain ⟨a, vs, g, rfl, hs, hr, _⟩ := hx.seqL s
        have hv := hr.ints hn
        subst hv
        exact ⟨a, ns, k, rfl, rfl, hs, flat_q s q (by simp [Rep])⟩
      | _ => simp [meS] at e
    | _ => simp [meS] at e

/-! ### repr -/
def rRepr (K : PySem.W.Frag) : List V → Hp → VK → Prop := fun xs H Q => ∃ x d, xs = [x] ∧ Dp K H x d ∧ d.showable = true ∧ d.hasDict = false ∧ d.depth ≤ 60 ∧ d.shown.length ≤ sizeLine ∧ Q (.str d.shown) H
theorem cr_repr {X : Cx} (hu : X.A.units + 64 < cLine) (hg : X.A.guards = some []) : CallR X (.builtin "repr") (rRepr X.K) := by
  intro pins s σ H xs us Q I r h
  obtain ⟨x, d, rfl, hd, sh, nd, dp, sz, q⟩ := h
  obtain ⟨u, rfl, rx⟩ := vals1 r
  cases hd with
  | non =>
    cases rx
    exact PySem.P.repr_of_none ⟨.str _, H, I.tok _, ⟨_, rfl⟩, q⟩
  | bl b =>
    cases rx
    exact PySem.P.repr_of_bool ⟨.str _, H, I.tok _, ⟨_, rfl⟩, q⟩
  | int i =>
    obtain ⟨t, rfl⟩ := rx
    exact PySem.P.repr_of_int (by simpa [PyData.showable] using sh) ⟨.str _, H, I.tok _, ⟨_, rfl⟩, q⟩
  | str z =>
    obtain ⟨t, rfl⟩ := rx
    exact PySem.P.repr_of_str ⟨.str _, H, I.tok _, ⟨_, rfl⟩, q⟩ (by simpa only [PyData.shown] using sz)
  | lst h1 h2 =>
    cases rx
    obtain ⟨as, rd⟩ := Dp.reads I _ _ _ (.lst h1 h2) rfl
    refine repr_of_reads' rd sh (PyData.noDict_hsm nd) hg (by omega) (fun b o e => e) (fun h' u tk hk => ⟨.str _, H, ?_, ⟨_, rfl⟩, q⟩) sz
    exact I.kept (t' := tk) hk
  | tup h1 h2 =>
    cases rx
    obtain ⟨as, rd⟩ := Dp.reads I _ _ _ (.tup h1 h2) rfl
    refine repr_of_reads' rd sh (PyData.noDict_hsm nd) hg (by omega) (fun b o e => e) (fun h' u tk hk => ⟨.str _, H, ?_, ⟨_, rfl⟩, q⟩) sz
    exact I.kept (t' := tk) hk
end
end Pur

/-! Pur8: built-ins, items, slices. -/
namespace Pur
open PySem PySem.Spec PyProof.Rows L2
section
variable {K : PySem.W.Frag} {G H : Hp}
theorem strOk_lt {x : Str} (h : PyData.strOk x = true) {c : Nat} (hc : c ∈ x.cps.toList) : c < 0x110000 := by
  unfold PyData.strOk at h
  rw [← Array.all_toList] at h
  simpa using List.all_eq_true.mp h c hc
theorem shownAll_sum : ∀ (ds : List D), (∀ d ∈ ds, (py d).shown.length ≤ rsz d) → ((PyData.shownAll (pyL ds)).map (·.length)).sum + 2 * (PyData.shownAll (pyL ds)).length ≤ rszL ds
  | [], _ => by simp [pyL, PyData.shownAll, rszL]
  | d :: ds, h => by
    have h1 := h d List.mem_cons_self
    have h2 := shownAll_sum ds fun x hx => h x (List.mem_cons_of_mem _ hx)
    simp only [pyL, PyData.shownAll, rszL, List.map_cons, List.sum_cons, List.length_cons]
    omega
mutual
theorem rsz_ok : ∀ {d : D} {n : Nat}, lay n d = true → rsz d ≤ 1000000 → (py d).showable = true ∧ (py d).shown.length ≤ rsz d
  | .non, n, l, h => by
    refine ⟨by simp [py, PyData.showable], ?_⟩
    simp only [py, PyData.shown, rsz]; decide
  | .bl b, n, l, h => by
    refine ⟨by simp [py, PyData.showable], ?_⟩
    simp only [py, PyData.shown, rsz]
    cases b <;> decide
  | .int i, n, l, h => by
    simp only [rsz] at h ⊢
    split at h
    · rename_i hi
      rw [if_pos hi]
      have e := int_text_length_le10 (k := 60) (by decide) hi
      refine ⟨?_, ?_⟩
      · simp only [py, PyData.showable, decide_eq_true_eq]
        have h2 : i.natAbs < 2 ^ 200 := Nat.lt_of_lt_of_le hi (by decide)
        exact Nat.lt_of_lt_of_le (PySem.Flt.log2_lt_of (by decide) h2) (by decide)
      · have e2 : (py (.int i)).shown.length = (Str.ofString (toString i)).length := by simp only [py, PyData.shown]
        rw [e2, PySem.ofString_length]; omega
    · omega
  | .str x, n, l, h => by
    simp only [lay, PyData.canLay0] at l
    refine ⟨by simp [py, PyData.showable], ?_⟩
    have hx : ∀ c ∈ x.cps.toList, c < 16 ^ 8 := fun c hc => by
      have := strOk_lt l hc
      have e : (1114112 : Nat) ≤ 16 ^ 8 := by decide
      exact Nat.lt_of_lt_of_le this e
    have e := StrLaws.reprText_len x hx
    simp only [py, PyData.shown, rsz]
    omega
  | .rs x, n, l, h => by simp [lay] at l
  | .tup ds, n, l, h => by
    cases n with
    | zero => simp [lay] at l
    | succ n =>
      simp only [rsz] at h
      have q := rszL_ok (ds := ds) (n := n) (by simpa [lay] using l) (by omega)
      have e := tupleText_len_le (PyData.shownAll (pyL ds))
      have e2 := shownAll_sum ds q.2
      simp only [py, PyData.showable, PyData.shown, rsz]
      exact ⟨q.1, by omega⟩
  | .lst f ds, n, l, h => by
    cases n with
    | zero => simp [lay] at l
    | succ n =>
      simp only [rsz] at h
      have q := rszL_ok (ds := ds) (n := n) (by simpa [lay] using l) (by omega)
      have e := listText_len_le (PyData.shownAll (pyL ds))
      have e2 := shownAll_sum ds q.2
      simp only [py, PyData.showable, PyData.shown, rsz]
      exact ⟨q.1, by omega⟩
theorem rszL_ok : ∀ {ds : List D} {n : Nat}, layL n ds = true → rszL ds ≤ 1000000 → PyData.showableAll (pyL ds) = true ∧ ∀ d ∈ ds, (py d).shown.length ≤ rsz d
  | [], n, l, h => ⟨by simp [pyL, PyData.showableAll], fun d hd => nomatch hd⟩
  | d :: ds, n, l, h => by
    simp only [layL, Bool.and_eq_true] at l
    simp only [rszL] at h
    have q1 := rsz_ok l.1 (by omega)
    have q2 := rszL_ok l.2 (by omega)
    simp only [pyL, PyData.showableAll, q1.1, q2.1]
    refine ⟨rfl, fun x hx => ?_⟩
    rcases List.mem_cons.mp hx with rfl | hx
    · exact q1.2
    · exact q2.2 x hx
end

theorem maxL_mem : ∀ (xs : List Int) (m : Int), maxL m xs ∈ m :: xs
  | [], m => by simp [maxL]
  | x :: xs, m => by
    have := maxL_mem xs (if m < x then x else m)
    simp only [maxL]
    rcases List.mem_cons.mp this with e | e
    · rw [e]; split <;> simp
    · exact List.mem_cons_of_mem _ (List.mem_cons_of_mem _ e)
theorem maxL_ge : ∀ (xs : List Int) (m : Int), ∀ y ∈ m :: xs, y ≤ maxL m xs
  | [], m, y, h => by simp at h; subst h; simp [maxL]
  | x :: xs, m, y, h => by
    have ih := maxL_ge xs (if m < x then x else m)
    simp only [maxL]
    have h0 := ih _ List.mem_cons_self
    rcases List.mem_cons.mp h with e | h
    · subst e; split at h0 <;> (try split) <;> omega
    · rcases List.mem_cons.mp h with e | h
      · subst e; split at h0 <;> (try split) <;> omega
      · exact ih y (List.mem_cons_of_mem _ h)
theorem minL_mem : ∀ (xs : List Int) (m : Int), minL m xs ∈ m :: xs
  | [], m => by simp [minL]
  | x :: xs, m => by
    have := minL_mem xs (if x < m then x else m)
    simp only [minL]
    rcases List.mem_cons.mp this with e | e
    · rw [e]; split <;> simp
    · exact List.mem_cons_of_mem _ (List.mem_cons_of_mem _ e)
theorem minL_le : ∀ (xs : List Int) (m : Int), ∀ y ∈ m :: xs, minL m xs ≤ y
  | [], m, y, h => by simp at h; subst h; simp [minL]
  | x :: xs, m, y, h => by
    have ih := minL_le xs (if x < m then x else m)
    simp only [minL]
    have h0 := ih _ List.mem_cons_self
    rcases List.mem_cons.mp h with e | h
    · subst e; split at h0 <;> (try split) <;> omega
    · rcases List.mem_cons.mp h with e | h
      · subst e; split at h0 <;> (try split) <;> omega
      · exact ih y (List.mem_cons_of_mem _ h)
theorem ins_perm (x : Int) : ∀ ys : List Int, (ins x ys).Perm (x :: ys)
  | [] => .refl _
  | y :: ys => by
    unfold ins
    split
    · exact .refl _
    · exact ((ins_perm x ys).cons y).trans (.swap x y ys)
theorem isort_perm : ∀ xs : List Int, (isort xs).Perm xs
  | [] => .refl _
  | x :: xs => (ins_perm x _).trans ((isort_perm xs).cons x)
theorem ins_sorted (x : Int) : ∀ ys : List Int, ys.Pairwise (· ≤ ·) → (ins x ys).Pairwise (· ≤ ·)
  | [], _ => by simp [ins]
  | y :: ys, h => by
    unfold ins
    obtain ⟨h1, h2⟩ := List.pairwise_cons.mp h
    split
    · rename_i hx
      exact List.pairwise_cons.mpr ⟨fun z hz => (List.mem_cons.mp hz).elim (fun e => e ▸ hx) fun q => Int.le_trans hx (h1 z q), h⟩
    · rename_i hx
      refine List.pairwise_cons.mpr ⟨fun z hz => ?_, ins_sorted x ys h2⟩
      rcases List.mem_cons.mp ((ins_perm x ys).mem_iff.mp hz) with e | q
      · subst e; omega
      · exact h1 z q
theorem isort_sorted : ∀ xs : List Int, (isort xs).Pairwise (· ≤ ·)
  | [] => .nil
  | x :: xs => ins_sorted x _ (isort_sorted xs)
theorem sorted_one {a b : List Int} (p : a.Perm b) (ha : a.Pairwise (· ≤ ·)) (hb : b.Pairwise (· ≤ ·)) : a = b := by
  induction a generalizing b with
  | nil => exact (List.Perm.nil_eq p)
  | cons x xs ih =>
    cases b with
    | nil => exact absurd p.length_eq (by simp)
    | cons y ys =>
      obtain ⟨a1, a2⟩ := List.pairwise_cons.mp ha
      obtain ⟨b1, b2⟩ := List.pairwise_cons.mp hb
      have e : x = y := by
        have h1 : x ∈ y :: ys := p.mem_iff.mp List.mem_cons_self
        have h2 : y ∈ x :: xs := p.mem_iff.mpr List.mem_cons_self
        rcases List.mem_cons.mp h1 with q | q
        · exact q
        · rcases List.mem_cons.mp h2 with r | r
          · exact r.symm
          · have := b1 x q
            have := a1 y r
            omega
      subst e
      rw [ih (List.perm_cons x |>.mp p) a2 b2]
end

theorem starEach_ok {X : Cx} {e : Expr} {es : List Expr} (h : (e :: es).all (fun e => !isStar e) = true) : starEach (e :: es) X.env = (false, eval e X.env) :: starEach es X.env ∧ ∀ pos, (backTo pos (starEach es X.env)).any (·.1) = false := by
  simp only [List.all_cons, Bool.and_eq_true, Bool.not_eq_true'] at h
  exact ⟨starEach_cons h.1, fun pos => backTo_plain (starEach_plain h.2)⟩
section
variable {X : Cx}
/-- a built-in, by its name -/
def BiR (X : Cx) (nm : Str) (r : List V → Hp → VK → Prop) : Prop :=
  ∀ (e : Expr) (es : List Expr) (p pos : Pos) (t : TA), Gl X nm → PA X (e :: es) t → (e :: es).all (fun e => !isStar e) = true → PE X (.Call (.Name nm p) (e :: es) [] pos) (tCB r t)
theorem biF {nm : Str} {id : String} {r : List V → Hp → VK → Prop} (hm : X.mg nm = none) (hc : CallR X (.builtin id) r) (hv : bootBuiltins nm = some (.builtin id)) (hn : nm ≠ "__name__") (hd : (nm == ("__debug__" : Str)) = false) : BiR X nm r :=
  fun e es p pos t g pa st => pe_callB hc g hm hv pa hn hd (starEach_ok st).1 ((starEach_ok st).2 pos)
theorem biT {nm : Str} {id : String} {r : List V → Hp → VK → Prop} (hm : X.mg nm = none) (hc : CallR X (.type id) r) (hv : bootBuiltins nm = some (.type id)) (hn : nm ≠ "__name__") (hd : (nm == ("__debug__" : Str)) = false) : BiR X nm r :=
  fun e es p pos t g pa st => pe_callTy hc g hm hv pa hn hd (starEach_ok st).1 ((starEach_ok st).2 pos)

theorem RepL.one {K : PySem.W.Frag} {G H : Hp} {d : D} {vs : List V} {fp : List Addr} (h : RepL K G H [d] vs fp) : ∃ v, vs = [v] ∧ Rep K G H d v fp := by
  simp only [RepL] at h
  obtain ⟨v, r, f1, f2, rfl, h1, ⟨rfl, rfl⟩, rfl⟩ := h
  exact ⟨v, rfl, by simpa using h1⟩
theorem RepL.two {K : PySem.W.Frag} {G H : Hp} {d e : D} {vs : List V} {fp : List Addr} (h : RepL K G H [d, e] vs fp) : ∃ v u f1 f2, vs = [v, u] ∧ Rep K G H d v f1 ∧ Rep K G H e u f2 ∧ fp = f1 ++ f2 := by
  simp only [RepL] at h
  obtain ⟨v, r, f1, f2, rfl, h1, ⟨u, r2, g1, g2, rfl, h2, ⟨rfl, rfl⟩, rfl⟩, rfl⟩ := h
  exact ⟨v, u, f1, g1, rfl, h1, h2, by simp⟩
theorem callR_imp {f : Value} {r r' : List V → Hp → VK → Prop} (h : CallR X f r) (k : ∀ x H Q, r' x H Q → r x H Q) : CallR X f r' :=
  fun pins s σ H x us Q I rx q => h pins s σ H x us Q I rx (k x H Q q)
theorem bi_ok (hu : X.A.units + 64 < cLine) (hg : X.A.guards = some []) (hc : X.calm = true) (nb : ∀ x ∈ bNames, X.mg x = none) (f : Bi) : ∃ r, BiR X (biNm f) r ∧ OkCall X.K r (biS f) := by
  have h (x : Str) (hx : x ∈ bNames := by decide +kernel) := nb x hx
  cases f with
  | len =>
    refine ⟨_, biF (h "len" (by decide +kernel)) (call_len_seq.or call_len_str) (by decide +kernel) (by decide +kernel) (by decide +kernel), ?_⟩
    intro G H ds vs fp d Q s hr n e q
    simp only [biS, lenS] at e
    split at e
    · obtain ⟨v, rfl, h1⟩ := hr.one
      cases e
      obtain ⟨a, vs, g, rfl, a1, a2, _⟩ := h1.seqL s
      exact .inl ⟨a, vs, rfl, .inl a1, by rw [← a2.length]; exact flat_q s q (by simp [Rep])⟩
    · obtain ⟨v, rfl, h1⟩ := hr.one
      cases e
      simp only [Rep] at h1
      obtain ⟨a, vs, rfl, a1, a2⟩ := h1
      exact .inl ⟨a, vs, rfl, .inr (isTup s a1), by rw [← a2.length]; exact flat_q s q (by simp [Rep])⟩
    · obtain ⟨v, rfl, h1⟩ := hr.one
      split at e
      · rename_i hl
        cases e
        simp only [Rep] at h1
        obtain ⟨rfl, rfl⟩ := h1
        exact .inr ⟨_, rfl, hl, flat_q s q (by simp [Rep])⟩
      · cases e
    · cases e
  | abs =>
    refine ⟨_, biF (h "abs" (by decide +kernel)) call_abs (by decide +kernel) (by decide +kernel) (by decide +kernel), ?_⟩
    intro G H ds vs fp d Q s hr n e q
    simp only [biS, absS] at e
    split at e
    · obtain ⟨v, rfl, h1⟩ := hr.one
      cases e
      simp only [Rep] at h1
      obtain ⟨rfl, rfl⟩ := h1
      exact ⟨_, rfl, flat_q s q (by simp [Rep])⟩
    · cases e
  | int =>
    refine ⟨_, biT (h "int" (by decide +kernel)) call_int1 (by decide +kernel) (by decide +kernel) (by decide +kernel), ?_⟩
    intro G H ds vs fp d Q s hr n e q
    simp only [biS, intS] at e
    split at e
    · obtain ⟨v, rfl, h1⟩ := hr.one
      cases e
      simp only [Rep] at h1
      obtain ⟨rfl, rfl⟩ := h1
      exact .inl ⟨_, rfl, flat_q s q (by simp [Rep])⟩
    · obtain ⟨v, rfl, h1⟩ := hr.one
      cases e
      simp only [Rep] at h1
      obtain ⟨rfl, rfl⟩ := h1
      exact .inr ⟨_, rfl, flat_q s q (by simp [Rep])⟩
    · cases e
  | all =>
    refine ⟨_, biF (h "all" (by decide +kernel)) (cr_all hc) (by decide +kernel) (by decide +kernel) (by decide +kernel), ?_⟩
    intro G H ds vs fp d Q s hr n e q
    simp only [biS, allS] at e
    split at e
    · obtain ⟨v, rfl, h1⟩ := hr.one
      obtain ⟨bs, e1, rfl⟩ := Option.map_eq_some_iff.mp e
      obtain ⟨a, vs, g, rfl, a1, a2, _⟩ := h1.seqL s
      rw [a2.bls e1] at a1
      exact ⟨a, bs, rfl, a1, flat_q s q (by simp [Rep])⟩
    · cases e
  | any =>
    refine ⟨_, biF (h "any" (by decide +kernel)) (cr_any hc) (by decide +kernel) (by decide +kernel) (by decide +kernel), ?_⟩
    intro G H ds vs fp d Q s hr n e q
    simp only [biS, anyS] at e
    split at e
    · obtain ⟨v, rfl, h1⟩ := hr.one
      obtain ⟨bs, e1, rfl⟩ := Option.map_eq_some_iff.mp e
      obtain ⟨a, vs, g, rfl, a1, a2, _⟩ := h1.seqL s
      rw [a2.bls e1] at a1
      exact ⟨a, bs, rfl, a1, flat_q s q (by simp [Rep])⟩
    · cases e
  | sum =>
    refine ⟨_, biF (h "sum" (by decide +kernel)) (cr_sum hc) (by decide +kernel) (by decide +kernel) (by decide +kernel), ?_⟩
    intro G H ds vs fp d Q s hr n e q
    simp only [biS, sumS] at e
    split at e
    · obtain ⟨v, rfl, h1⟩ := hr.one
      obtain ⟨bs, e1, rfl⟩ := Option.map_eq_some_iff.mp e
      obtain ⟨a, vs, g, rfl, a1, a2, _⟩ := h1.seqL s
      rw [a2.ints e1] at a1
      exact ⟨a, bs, rfl, a1, flat_q s q (by simp [Rep])⟩
    · cases e
  | max =>
    refine ⟨_, biF (h "max" (by decide +kernel)) ((cr_max hc).or (call_max2 hc)) (by decide +kernel) (by decide +kernel) (by decide +kernel), ?_⟩
    intro G H ds vs fp d Q s hr n e q
    simp only [biS, maxS] at e
    split at e
    · obtain ⟨v, rfl, h1⟩ := hr.one
      split at e
      · rename_i m ms e1
        cases e
        obtain ⟨a, vs, g, rfl, a1, a2, _⟩ := h1.seqL s
        rw [a2.ints e1] at a1
        refine .inl ⟨a, m :: ms, rfl, a1, by simp, fun k hk hm => ?_⟩
        have ek : k = maxL m ms := by
          have z1 := hm _ (maxL_mem ms m)
          have z2 := maxL_ge ms m k hk
          omega
        rw [ek]
        exact flat_q s q (by simp [Rep])
      · cases e
    · obtain ⟨v, u, f1, f2, rfl, h1, h2, rfl⟩ := hr.two
      cases e
      simp only [Rep] at h1 h2
      obtain ⟨⟨rfl, rfl⟩, rfl, rfl⟩ := And.intro h1 h2
      exact .inr ⟨_, _, rfl, flat_q s q (by simp [Rep])⟩
    · cases e
  | min =>
    refine ⟨_, biF (h "min" (by decide +kernel)) ((cr_min hc).or (call_min2 hc)) (by decide +kernel) (by decide +kernel) (by decide +kernel), ?_⟩
    intro G H ds vs fp d Q s hr n e q
    simp only [biS, minS] at e
    split at e
    · obtain ⟨v, rfl, h1⟩ := hr.one
      split at e
      · rename_i m ms e1
        cases e
        obtain ⟨a, vs, g, rfl, a1, a2, _⟩ := h1.seqL s
        rw [a2.ints e1] at a1
        refine .inl ⟨a, m :: ms, rfl, a1, by simp, fun k hk hm => ?_⟩
        have ek : k = minL m ms := by
          have z1 := hm _ (minL_mem ms m)
          have z2 := minL_le ms m k hk
          omega
        rw [ek]
        exact flat_q s q (by simp [Rep])
      · cases e
    · obtain ⟨v, u, f1, f2, rfl, h1, h2, rfl⟩ := hr.two
      cases e
      simp only [Rep] at h1 h2
      obtain ⟨⟨rfl, rfl⟩, rfl, rfl⟩ := And.intro h1 h2
      exact .inr ⟨_, _, rfl, flat_q s q (by simp [Rep])⟩
    · cases e
  | sorted =>
    refine ⟨_, biF (h "sorted" (by decide +kernel)) cr_sortedI (by decide +kernel) (by decide +kernel) (by decide +kernel), ?_⟩
    intro G H ds vs fp d Q s hr n e q
    simp only [biS, sortS] at e
    split at e
    · obtain ⟨v, rfl, h1⟩ := hr.one
      obtain ⟨ns, e1, rfl⟩ := Option.map_eq_some_iff.mp e
      obtain ⟨a, vs, g, rfl, a1, a2, _⟩ := h1.seqL s
      rw [a2.ints e1] at a1
      refine ⟨a, ns, rfl, a1, fun ms p hp hs hn => ?_⟩
      rw [sorted_one (hp.trans (isort_perm ns).symm) hs (isort_sorted ns)]
      exact lst_q s (RepL.of_ints _) hn .nil (fun a z => nomatch z) q
    · cases e
  | list =>
    refine ⟨_, biT (h "list" (by decide +kernel)) call_list_of (by decide +kernel) (by decide +kernel) (by decide +kernel), ?_⟩
    intro G H ds vs fp d Q s hr n e q
    simp only [biS, listS] at e
    split at e
    · obtain ⟨v, rfl, h1⟩ := hr.one
      split at e
      · cases e
      · cases e
        obtain ⟨a, vs, g, rfl, a1, a2, a3, a4, a5, _⟩ := h1.seqL s
        exact ⟨a, vs, rfl, .inl a1, fun l hl => lst_q s a2 hl (a5 n) (fun x hx => .inl (a3 x hx)) q⟩
    · obtain ⟨v, rfl, h1⟩ := hr.one
      split at e
      · cases e
      · cases e
        simp only [Rep] at h1
        obtain ⟨a, vs, rfl, a1, a2⟩ := h1
        exact ⟨a, vs, rfl, .inr (isTup s a1), fun l hl => lst_q s a2 hl n (fun x hx => .inl hx) q⟩
    · cases e
  | tuple =>
    refine ⟨_, biT (h "tuple" (by decide +kernel)) call_tuple_of (by decide +kernel) (by decide +kernel) (by decide +kernel), ?_⟩
    intro G H ds vs fp d Q s hr n e q
    simp only [biS, tupS] at e
    split at e
    · obtain ⟨v, rfl, h1⟩ := hr.one
      split at e
      · cases e
      · cases e
        obtain ⟨a, vs, g, rfl, a1, a2, a3, a4, a5, _⟩ := h1.seqL s
        exact ⟨a, vs, rfl, .inl ⟨a1, fun l hl => tup_q s a2 hl (a5 n) (fun x hx => .inl (a3 x hx)) q⟩⟩
    · obtain ⟨v, rfl, h1⟩ := hr.one
      cases e
      have h1' := h1
      simp only [Rep] at h1
      obtain ⟨a, vs, rfl, a1, a2⟩ := h1
      exact ⟨a, vs, rfl, .inr ⟨isTup s a1, q _ G H fp (.refl s) h1' n fun x hx => .inl hx⟩⟩
    · cases e
  | repr =>
    refine ⟨_, biF (h "repr" (by decide +kernel)) (cr_repr hu hg) (by decide +kernel) (by decide +kernel) (by decide +kernel), ?_⟩
    intro G H ds vs fp d Q s hr n e q
    simp only [biS, reprS] at e
    split at e
    · obtain ⟨v, rfl, h1⟩ := hr.one
      split at e
      · rename_i hl
        rw [Bool.and_eq_true, decide_eq_true_eq] at hl
        cases e
        obtain ⟨l1, l2, l3⟩ := lay_ok hl.1
        obtain ⟨z1, z2⟩ := rsz_ok hl.1 hl.2
        refine ⟨v, _, rfl, h1.dp s hl.1, z1, l3, l2, ?_, flat_q s q (by simp [Rep])⟩
        have : sizeLine = 16777216 := sizeLine_eq
        have z3 := hl.2
        omega
      · cases e
    · cases e

/-! ### isinstance with a built-in class -/
theorem isi_ok (nb : ∀ x ∈ bNames, X.mg x = none) {l : Expr} {p p2 pos : Pos} {n : String} {te : TE} (hg : Gl X "isinstance") (hg2 : Gl X (Str.ofString n)) (hn : n ∈ ["int", "bool", "str", "tuple", "list"]) (he : PE X l te) (hl : isStar l = false) :
    PE X (.Call (.Name "isinstance" p) [l, .Name (Str.ofString n) p2] [] pos) (fun σ H Q => te σ H fun x H1 => rIsi X.K [x, .ty n] H1 Q) := by
  have nbn : X.mg (Str.ofString n) = none := by
    refine nb _ ?_
    simp only [List.mem_cons, List.not_mem_nil, or_false] at hn
    rcases hn with rfl | rfl | rfl | rfl | rfl <;> decide +kernel
  have hv : bootBuiltins (Str.ofString n) = some (.type n) := by
    simp only [List.mem_cons, List.not_mem_nil, or_false] at hn
    rcases hn with rfl | rfl | rfl | rfl | rfl <;> decide +kernel
  have h1 : Str.ofString n ≠ "__name__" := by
    simp only [List.mem_cons, List.not_mem_nil, or_false] at hn
    rcases hn with rfl | rfl | rfl | rfl | rfl <;> decide +kernel
  have h2 : (Str.ofString n == ("__debug__" : Str)) = false := by
    simp only [List.mem_cons, List.not_mem_nil, or_false] at hn
    rcases hn with rfl | rfl | rfl | rfl | rfl <;> decide +kernel
  have st : (l :: [Expr.Name (Str.ofString n) p2]).all (fun e => !isStar e) = true := by
    simp only [List.all_cons, List.all_nil, hl]; rfl
  have k : BiR X "isinstance" (rIsi X.K) := biF (nb _ (by decide +kernel)) call_isi (by decide +kernel) (by decide +kernel) (by decide +kernel)
  refine (k l [.Name (Str.ofString n) p2] p pos _ hg (pa_cons he (pa_cons (pe_bltn (v := .ty n) hg2 nbn hv rfl h1 h2) pa_nil (by rfl)) (starEach_cons hl)) st).imp fun σ H Q q => ?_
  exact q
theorem isiS_in {d : D} {n : String} {b : Bool} (h : isiS d n = some b) : n ∈ ["int", "bool", "str", "tuple", "list"] := by
  unfold isiS at h
  repeat' split at h
  all_goals first | (simp_all; done) | cases h
theorem isi_q {K : PySem.W.Frag} {G H : Hp} {d : D} {v : V} {fp : List Addr} {n : String} {b : Bool} {Q : VK} (s : Same G H) (h : Rep K G H d v fp) (e : isiS d n = some b) (q : Q (.bl b) H) : rIsi K [v, .ty n] H Q := by
  have hn := isiS_in e
  have fin : ∀ {t : String}, TyX K H v (.type t) → kitB t n = some b → rIsi K [v, .ty n] H Q := fun ty k => ⟨v, .ty n, _, _, b, rfl, .ty n, ty, kit_ty k, q⟩
  simp only [List.mem_cons, List.not_mem_nil, or_false] at hn
  cases d with
  | non =>
    simp only [Rep] at h
    rw [h.1] at fin ⊢
    refine fin (.base .non) ?_
    rcases hn with rfl | rfl | rfl | rfl | rfl <;> (simp [isiS] at e; subst e; decide +kernel)
  | bl x =>
    simp only [Rep] at h
    rw [h.1] at fin ⊢
    refine fin (.base (.bl x)) ?_
    rcases hn with rfl | rfl | rfl | rfl | rfl <;> (simp [isiS] at e; subst e; decide +kernel)
  | int x =>
    simp only [Rep] at h
    rw [h.1] at fin ⊢
    refine fin (.base (.int x)) ?_
    rcases hn with rfl | rfl | rfl | rfl | rfl <;> (simp [isiS] at e; subst e; decide +kernel)
  | str x =>
    simp only [Rep] at h
    rw [h.1] at fin ⊢
    refine fin (.base (.str x)) ?_
    rcases hn with rfl | rfl | rfl | rfl | rfl <;> (simp [isiS] at e; subst e; decide +kernel)
  | rs x =>
    simp only [Rep] at h
    rw [h.1] at fin ⊢
    refine fin (.base (.str _)) ?_
    rcases hn with rfl | rfl | rfl | rfl | rfl <;> (simp [isiS] at e; subst e; decide +kernel)
  | tup ds =>
    simp only [Rep] at h
    obtain ⟨a, vs, rfl, h1, _⟩ := h
    have k : kitB "tuple" n = some b := by
      rcases hn with rfl | rfl | rfl | rfl | rfl <;> (simp [isiS] at e; subst e; decide +kernel)
    rcases isTup s h1 with (h1 | ⟨o, h1⟩) | ⟨o, its, m, h1, h2, _⟩
    · exact fin (.base (.tup h1)) k
    · exact fin (.fTuple h1) k
    · exact fin (.kTuple h1 h2) k
  | lst f ds =>
    obtain ⟨a, vs, g, rfl, h1, _⟩ := h.seqL s
    have k : kitB "list" n = some b := by
      rcases hn with rfl | rfl | rfl | rfl | rfl <;> (simp [isiS] at e; subst e; decide +kernel)
    rcases h1 with (h1 | ⟨o, h1⟩) | ⟨o, its, m, h1, h2, _⟩
    · exact fin (.base (.lst h1)) k
    · exact fin (.base (.frz h1)) k
    · exact fin (.kList h1 h2) k

/-! ### items, slices -/
theorem RepL.atI {K : PySem.W.Frag} {G H : Hp} {ds : List D} {vs : List V} {fp : List Addr} {i : Int} {d : D} (h : RepL K G H ds vs fp) (e : atI ds i = some d) : ∃ v f, L2.atI vs i = some v ∧ Rep K G H d v f ∧ (∀ a ∈ f, a ∈ fp) ∧ (fp.Nodup → f.Nodup) := by
  unfold L2.atI at e ⊢
  rw [← h.length]
  cases q : ixN ds.length i with
  | none => rw [q] at e; cases e
  | some j =>
    rw [q] at e
    obtain ⟨v, f1, f2, e1, r1, _, p⟩ := h.get (show ds[j]? = some d from e)
    exact ⟨v, f1, e1, r1, fun a z => p.mem_iff.mp (List.mem_append_left _ z), fun n => (List.nodup_append.mp (p.nodup_iff.mpr n)).1⟩
theorem idx_ok : ∃ r, IxR X r ∧ OkBin X.K r idxS := by
  refine ⟨_, ix_seq, ?_⟩
  intro G H x y u v f1 f2 d Q s hx hy n e q
  have n1 : f1.Nodup := (List.nodup_append.mp n).1
  unfold idxS at e
  split at e
  · simp only [Rep] at hy
    obtain ⟨rfl, rfl⟩ := hy
    obtain ⟨a, vs, g, rfl, a1, a2, a3, a4, a5, _⟩ := hx.seqL s
    obtain ⟨v, f, e1, r1, m1, m2⟩ := a2.atI e
    exact .inl ⟨a, vs, _, v, rfl, rfl, a1, e1, q v G H f (.refl s) r1 (m2 (a5 n1)) fun z hz => .inl (List.mem_append_left _ (a3 z (m1 z hz)))⟩
  · simp only [Rep] at hy hx
    obtain ⟨rfl, rfl⟩ := hy
    obtain ⟨a, vs, rfl, a1, a2⟩ := hx
    obtain ⟨v, f, e1, r1, m1, m2⟩ := a2.atI e
    exact .inr (.inl ⟨a, vs, _, v, rfl, rfl, isTup s a1, e1, q v G H f (.refl s) r1 (m2 n1) fun z hz => .inl (List.mem_append_left _ (m1 z hz))⟩)
  · simp only [Rep] at hy hx
    obtain ⟨⟨rfl, rfl⟩, rfl, rfl⟩ := And.intro hx hy
    split at e
    · rename_i hl
      obtain ⟨c, e1, rfl⟩ := Option.map_eq_some_iff.mp e
      exact .inr (.inr ⟨_, _, c, rfl, rfl, hl, e1, flat_q s q (by simp [Rep])⟩)
    · cases e
  · cases e
def OkSl (K : PySem.W.Frag) (r : V → Option Int → Option Int → Hp → VK → Prop) : Prop :=
  ∀ (G H : Hp) (x : D) (u : V) (lo hi : Option Int) (f1 : List Addr) (d : D) (Q : VK), Same G H → Rep K G H x u f1 → f1.Nodup → slcS x lo hi = some d →
    (∀ z G' H' fr, Ev [] G H G' H' → Rep K G' H' d z fr → fr.Nodup → (∀ a ∈ fr, a ∈ f1 ∨ H a = none) → Q z H') → r u lo hi H Q
theorem slc_ok : ∃ r, SlR X r ∧ OkSl X.K r := by
  refine ⟨_, sl_list.or sl_tupA, ?_⟩
  intro G H x u lo hi f1 d Q s hx n e q
  unfold slcS at e
  split at e
  · split at e
    · cases e
    · cases e
      obtain ⟨a, vs, g, rfl, a1, a2, a3, a4, a5, _⟩ := hx.seqL s
      obtain ⟨f, m, r⟩ := a2.cut lo hi
      exact .inl ⟨a, vs, rfl, a1, fun p hp => lst_q s r hp ((a5 n).sublist m) (fun z hz => .inl (a3 z (m.subset hz))) q⟩
  · cases e
    have hx' := hx
    simp only [Rep] at hx
    obtain ⟨a, vs, rfl, a1, a2⟩ := hx
    obtain ⟨f, m, r⟩ := a2.cut lo hi
    have el := a2.length
    refine .inr ⟨a, vs, rfl, isTup s a1, fun w => ?_, fun w p hp => tup_q s r hp (n.sublist m) (fun z hz => .inl (m.subset hz)) q⟩
    refine q _ G H f1 (.refl s) ?_ n fun z hz => .inl hz
    have e : ∀ ds : List D, ds.length = vs.length → cutD ds lo hi = ds := fun ds hd => by
      unfold cutD
      rw [hd, w.1, w.2]
      simp only [List.drop_zero, Nat.sub_zero]
      rw [← hd, List.take_length]
    rw [e _ el]
    exact hx'
  · cases e
end
end Pur

/-! Pur9: the readings, and calls' arguments. -/
namespace Pur
open PySem PySem.Spec PyProof.Rows L2

/-- a def's promise by the meaning of its text -/
def spF (K : PySem.W.Frag) (cal : Cal) (k : Nat) : Sp1 := fun vs H Q => ∃ G fp ds r fin, Same G H ∧ RepL K G H ds vs fp ∧ fp.Nodup ∧ borL ds = false ∧ cal k ds = some (r, fin) ∧
  ∀ v G' H' fr ff, Ev fp G H G' H' → bor r = false → Rep K G' H' r v fr → RepL K G' H' fin vs ff → (fr ++ ff).Nodup → (∀ a ∈ fr ++ ff, a ∈ fp ∨ H a = none) → Q v H'

structure Good (p : Pg) (cal : Cal) (c : SC) (n : Nat) (X : Cx) : Prop where
  N : X.N = c.N
  nd : c.N.Nodup
  sc : X.env.scope = c.sc
  fn : ∀ x, X.fn x = c.fn x
  calm : X.calm = true
  room : Room n X.A
  gd : X.A.guards = some []
  nb : ∀ x ∈ bNames, X.mg x = none
  gs : ∀ (k : Nat) x d, p.gs[k]? = some (x, d) → frz d = true ∧ ∃ u v, X.mg x = some u ∧ RelV v u ∧ ∀ G H, Rep X.K G H d v []
  fs : ∀ (k : Nat) f, p.fs[k]? = some f → ∃ a fd ps, X.mg f.name = some (.ref a) ∧ PySem.W.keepIn X.K (.ref a) = true ∧ Binds X.K fd ps [] ∧ ps.length = f.np ∧ FnR X.prog X.w X.K X.mg X.base n a fd ps (spF X.K cal k)

section
variable (p : Pg) (cal : Cal) (K : PySem.W.Frag)
def tE (e : E) : TE := fun σ H Q => ∃ G fp ρ d ρ', Pre K G H ρ σ fp ∧ evE p.gs cal e ρ = some (d, ρ') ∧ ∀ v G' H' fr fe, Post K (isP e) fp G H G' H' fr ρ' σ fe → Rep K G' H' d v fr → Q v H'
def tA (e : E) : TA := fun σ H Q => ∃ G fp ρ ds ρ', Pre K G H ρ σ fp ∧ evA p.gs cal e ρ = some (ds, ρ') ∧ ∀ vs G' H' fr fe, Post K (isP e) fp G H G' H' fr ρ' σ fe → RepL K G' H' ds vs fr → Q vs H'
def RepF (G H : Hp) (σ : St) : List (Option Nat) → List D → List V → List Addr → Prop
  | [], ds, vs, fp => ds = [] ∧ vs = [] ∧ fp = []
  | none :: ls, ds, vs, fp => ∃ d ds' v vs' f1 f2, ds = d :: ds' ∧ vs = v :: vs' ∧ bor d = false ∧ Rep K G H d v f1 ∧ RepF G H σ ls ds' vs' f2 ∧ fp = f1 ++ f2
  | some i :: ls, ds, vs, fp => ∃ d ds' v vs', ds = d :: ds' ∧ vs = v :: vs' ∧ σ[i]? = some (some v) ∧ RepF G H σ ls ds' vs' fp
def tF (e : E) : TA := fun σ H Q => ∃ G fp ρ ds ρ', Pre K G H ρ σ fp ∧ evF p.gs cal e ρ = some (ds, ρ') ∧ ∀ vs G' H' fr fe, Post K (isP e) fp G H G' H' fr ρ' σ fe → RepF K G' H' σ (lends e) ds vs fr → Q vs H'
def tT (e : E) : TT := fun σ H Q => ∃ G fp ρ b ρ', Pre K G H ρ σ fp ∧ evE p.gs cal e ρ = some (.bl b, ρ') ∧ ∀ G' H' fe, Post K (isP e) fp G H G' H' [] ρ' σ fe → Q b H'
def tAnd' (e : E) : TE := fun σ H Q => ∃ G fp ρ d ρ', Pre K G H ρ σ fp ∧ evAnd p.gs cal e ρ = some (d, ρ') ∧ ∀ v G' H' fr fe, Post K (isP e) fp G H G' H' fr ρ' σ fe → Rep K G' H' d v fr → Q v H'
def tOr' (e : E) : TE := fun σ H Q => ∃ G fp ρ d ρ', Pre K G H ρ σ fp ∧ evOr p.gs cal e ρ = some (d, ρ') ∧ ∀ v G' H' fr fe, Post K (isP e) fp G H G' H' fr ρ' σ fe → Rep K G' H' d v fr → Q v H'
def tAndT (e : E) : TT := fun σ H Q => ∃ G fp ρ b ρ', Pre K G H ρ σ fp ∧ evAnd p.gs cal e ρ = some (.bl b, ρ') ∧ ∀ G' H' fe, Post K (isP e) fp G H G' H' [] ρ' σ fe → Q b H'
def tOrT (e : E) : TT := fun σ H Q => ∃ G fp ρ b ρ', Pre K G H ρ σ fp ∧ evOr p.gs cal e ρ = some (.bl b, ρ') ∧ ∀ G' H' fe, Post K (isP e) fp G H G' H' [] ρ' σ fe → Q b H'
def tBd (e : E) : TO := fun σ H Q => ∃ G fp ρ o ρ', Pre K G H ρ σ fp ∧ evB p.gs cal e ρ = some (o, ρ') ∧ ∀ G' H' fe, Post K (isP e) fp G H G' H' [] ρ' σ fe → Q o H'
/-- an iterator that gives the items while what it leans on (kp, as kv at fk) stands -/
structure Wk (J : It) (items : List D) (kp : D) (kv : V) (fk : List Addr) : Prop where
  go : ∀ i G H, i < items.length → Same G H → Rep K G H kp kv fk → J.go i H
  stop : ∀ G H, Same G H → Rep K G H kp kv fk → J.stop items.length H
  yld : ∀ i G H x H', i < items.length → Same G H → Rep K G H kp kv fk → J.yld i H x H' → ∃ G' d, Ev [] G H G' H' ∧ items[i]? = some d ∧ Rep K G' H' d x []
def tI (e : E) : TI := fun σ H R => ∃ G fp ρ items kp ρ', Pre K G H ρ σ fp ∧ evI p.gs cal e ρ = some (items, kp, ρ') ∧
  ∀ J kv G' H' fr fe, Post K (isP e) fp G H G' H' fr ρ' σ fe → Rep K G' H' kp kv fr → Wk K J items kp kv fr → R J H'
end

section
variable {p : Pg} {cal : Cal} {K : PySem.W.Frag} {G H : Hp} {fp : List Addr} {ρ ρ1 ρ2 ρ3 : En} {σ : St} {a b c : E} {x y z : D}
/-- the last step's end -/
theorem fin_q {q : Bool} {fr fe : List Addr} {G1 H1 : Hp} {d : D} {Q : VK} (P : Post K q fp G H G1 H1 fr ρ1 σ fe) (t : ∀ x ∈ fr, H1 x ≠ none)
    (k : ∀ v G' H' fr fe, Post K q fp G H G' H' fr ρ1 σ fe → Rep K G' H' d v fr → Q v H') :
    ∀ z G' H' f, Ev [] G1 H1 G' H' → Rep K G' H' d z f → f.Nodup → (∀ a ∈ f, a ∈ fr ∨ H1 a = none) → Q z H' :=
  fun z G' H' f e r n m => k z G' H' f fe (P.step t e n m) r
theorem ne_app {f1 f2 : List Addr} {H1 : Hp} (h1 : ∀ x ∈ f1, H1 x ≠ none) (h2 : ∀ x ∈ f2, H1 x ≠ none) : ∀ x ∈ f1 ++ f2, H1 x ≠ none := fun x h => (List.mem_append.mp h).elim (h1 x) (h2 x)
theorem Rep.then {q : Bool} {f1 fe fe2 f2 : List Addr} {G1 H1 G2 H2 : Hp} {u : V} (r : Rep K G1 H1 x u f1) (dj : ∀ a ∈ f1, a ∉ fe) (P : Post K q fe G1 H1 G2 H2 f2 ρ2 σ fe2) (hb : (bor x && !q) = false) : Rep K G2 H2 x u f1 := by
  by_cases hx : bor x = true
  · have hq : q = true := by simpa [hx] using hb
    exact r.ev (P.pu hq) (fun a _ z => nomatch z) (.inr rfl)
  · exact r.ev P.ev dj (.inl (by simpa using hx))
theorem tE_two (h : Pre K G H ρ σ fp) (ea : evE p.gs cal a ρ = some (x, ρ1)) (eb : evE p.gs cal b ρ1 = some (y, ρ2)) (hb : (bor x && !isP b) = false) {R : V → V → Hp → Prop}
    (k : ∀ u v G' H' f1 f2 fe, Post K (isP a && isP b) fp G H G' H' (f1 ++ f2) ρ2 σ fe → Rep K G' H' x u f1 → Rep K G' H' y v f2 → R u v H') :
    tE p cal K a σ H fun u H1 => tE p cal K b σ H1 fun v H2 => R u v H2 :=
  ⟨G, fp, ρ, x, ρ1, h, ea, fun u G1 H1 f1 fe P1 r1 => ⟨G1, fe, ρ1, y, ρ2, P1.pre, eb, fun v G2 H2 f2 fe2 P2 r2 => k u v G2 H2 f1 f2 fe2 (P1.trans r1.ne P2) (r1.then P1.dj P2 hb) r2⟩⟩
/-- two, and an operation -/
theorem tE_op {r : R2} {f : D → D → Option D} {d : D} {Q : VK} (ok : OkBin K r f) (h : Pre K G H ρ σ fp) (ea : evE p.gs cal a ρ = some (x, ρ1)) (eb : evE p.gs cal b ρ1 = some (y, ρ2)) (hb : (bor x && !isP b) = false)
    (ed : f x y = some d) (k : ∀ v G' H' fr fe, Post K (isP a && isP b) fp G H G' H' fr ρ2 σ fe → Rep K G' H' d v fr → Q v H') : tOp r (tE p cal K a) (tE p cal K b) σ H Q :=
  tE_two h ea eb hb fun u v G' H' f1 f2 fe P r1 r2 => ok G' H' x y u v f1 f2 d Q P.ev.h r1 r2 P.ndr ed (fin_q P (ne_app r1.ne r2.ne) k)

/-! ### lent arguments -/
theorem RepF.ev {G' H' : Hp} {f : List Addr} (e : Ev f G H G' H') : ∀ {ls : List (Option Nat)} {ds : List D} {vs : List V} {fr : List Addr}, (∀ a ∈ fr, a ∉ f) → RepF K G H σ ls ds vs fr → RepF K G' H' σ ls ds vs fr
  | [], ds, vs, fr, dj, h => h
  | none :: ls, ds, vs, fr, dj, h => by
    simp only [RepF] at h ⊢
    obtain ⟨d, ds', v, vs', f1, f2, rfl, rfl, b, r, q, rfl⟩ := h
    exact ⟨d, ds', v, vs', f1, f2, rfl, rfl, b, r.ev e (fun a z => dj a (List.mem_append_left _ z)) (.inl b), RepF.ev e (fun a z => dj a (List.mem_append_right _ z)) q, rfl⟩
  | some i :: ls, ds, vs, fr, dj, h => by
    simp only [RepF] at h ⊢
    obtain ⟨d, ds', v, vs', rfl, rfl, s, q⟩ := h
    exact ⟨d, ds', v, vs', rfl, rfl, s, RepF.ev e dj q⟩
theorem RepF.ne : ∀ {ls : List (Option Nat)} {ds : List D} {vs : List V} {fr : List Addr}, RepF K G H σ ls ds vs fr → ∀ a ∈ fr, H a ≠ none
  | [], ds, vs, fr, h, a, q => by simp only [RepF] at h; rw [h.2.2] at q; cases q
  | none :: ls, ds, vs, fr, h, a, q => by
    simp only [RepF] at h
    obtain ⟨d, ds', v, vs', f1, f2, rfl, rfl, b, r, h, rfl⟩ := h
    rcases List.mem_append.mp q with q | q
    · exact r.ne a q
    · exact RepF.ne h a q
  | some i :: ls, ds, vs, fr, h, a, q => by
    simp only [RepF] at h
    obtain ⟨d, ds', v, vs', rfl, rfl, s, h⟩ := h
    exact RepF.ne h a q
/-- where the lent ones stand -/
def LendV (σ : St) : List (Option Nat) → List V → Prop
  | [], vs => vs = []
  | none :: ls, vs => ∃ v vs', vs = v :: vs' ∧ LendV σ ls vs'
  | some i :: ls, vs => ∃ v vs', vs = v :: vs' ∧ σ[i]? = some (some v) ∧ LendV σ ls vs'
theorem RepF.lend : ∀ {ls : List (Option Nat)} {ds : List D} {vs : List V} {fr : List Addr}, RepF K G H σ ls ds vs fr → LendV σ ls vs
  | [], ds, vs, fr, h => by simp only [RepF] at h; exact h.2.1
  | none :: ls, ds, vs, fr, h => by
    simp only [RepF] at h
    obtain ⟨d, ds', v, vs', f1, f2, rfl, rfl, b, r, h, rfl⟩ := h
    exact ⟨v, vs', rfl, RepF.lend h⟩
  | some i :: ls, ds, vs, fr, h => by
    simp only [RepF] at h
    obtain ⟨d, ds', v, vs', rfl, rfl, s, h⟩ := h
    exact ⟨v, vs', rfl, s, RepF.lend h⟩
theorem fill_ok : ∀ {ls : List (Option Nat)} {ds ds' : List D} {vs : List V} {fr fe : List Addr} {ρ ρ' : En}, RepF K G H σ ls ds vs fr → EnvP K G H ρ σ fe → fillL ls ds ρ = some (ds', ρ') →
    ∃ fa fe', RepL K G H ds' vs fa ∧ EnvP K G H ρ' σ fe' ∧ (fa ++ fe').Perm (fr ++ fe) ∧ borL ds' = false ∧ ((∀ l ∈ ls, l = none) → fa = fr)
  | [], ds, ds', vs, fr, fe, ρ, ρ', h, k, e => by
    simp only [RepF] at h
    obtain ⟨rfl, rfl, rfl⟩ := h
    simp only [fillL, Option.some.injEq, Prod.mk.injEq] at e
    obtain ⟨rfl, rfl⟩ := e
    exact ⟨[], fe, by simp [RepL], k, .refl _, rfl, fun _ => rfl⟩
  | none :: ls, ds, ds', vs, fr, fe, ρ, ρ', h, k, e => by
    simp only [RepF] at h
    obtain ⟨d, dr, v, vs', f1, f2, rfl, rfl, b, r, h, rfl⟩ := h
    simp only [fillL] at e
    split at e
    · rename_i ds2 ρ2 e2
      cases e
      obtain ⟨fa, fe', h1, h2, h3, h4, h5⟩ := fill_ok h k e2
      refine ⟨f1 ++ fa, fe', ?_, h2, ?_, by simp [borL, b, h4], fun hl => by rw [h5 fun l hl' => hl l (List.mem_cons_of_mem _ hl')]⟩
      · simp only [RepL]
        exact ⟨v, vs', f1, fa, rfl, r, h1, rfl⟩
      · rw [List.append_assoc, List.append_assoc]
        exact List.Perm.append_left f1 h3
    · cases e
  | some i :: ls, ds, ds', vs, fr, fe, ρ, ρ', h, k, e => by
    simp only [RepF] at h
    obtain ⟨d, dr, v, vs', rfl, rfl, s, h⟩ := h
    simp only [fillL] at e
    split at e
    · rename_i d0 e0
      split at e
      · rename_i ds2 ρ2 e2
        cases e
        obtain ⟨v0, g1, g2, s0, b0, r0, k0, p0⟩ := k.take e0
        rw [s] at s0
        cases s0
        by_cases hf : frz d0 = true
        · rw [if_pos hf] at e2
          have := Rep.fp_nil hf r0
          subst this
          obtain ⟨fa, fe', h1, h2, h3, h4, h5⟩ := fill_ok h k e2
          refine ⟨fa, fe', ?_, h2, h3, by simp [borL, b0, h4], fun hl => absurd (hl _ List.mem_cons_self) (by simp)⟩
          simp only [RepL]
          exact ⟨v, vs', [], fa, rfl, r0, h1, rfl⟩
        · rw [if_neg hf] at e2
          obtain ⟨fa, fe', h1, h2, h3, h4, h5⟩ := fill_ok h k0 e2
          refine ⟨g1 ++ fa, fe', ?_, h2, ?_, by simp [borL, b0, h4], fun hl => absurd (hl _ List.mem_cons_self) (by simp)⟩
          · simp only [RepL]
            exact ⟨v, vs', g1, fa, rfl, r0, h1, rfl⟩
          · rw [List.append_assoc]
            refine (List.Perm.append_left g1 h3).trans ?_
            exact (List.perm_append_comm_assoc g1 fr g2).trans (List.Perm.append_left fr p0)
      · cases e
    · cases e
theorem lends_pure : ∀ {es : E}, isP es = true → ∀ l ∈ lends es, l = none
  | .cons a es, h, l, q => by
    simp only [isP, Bool.and_eq_true] at h
    simp only [lends] at q
    rcases List.mem_cons.mp q with e | q
    · cases a <;> first | exact e | (simp [isP] at h)
    · exact lends_pure h.2 l q
  | .v _ _, h, l, q => nomatch q
  | .lend _, h, l, q => nomatch q
  | .int _, h, l, q => nomatch q
  | .bl _, h, l, q => nomatch q
  | .non, h, l, q => nomatch q
  | .str _, h, l, q => nomatch q
  | .glob _, h, l, q => nomatch q
  | .bin _ _ _, h, l, q => nomatch q
  | .neg _, h, l, q => nomatch q
  | .cmp _ _ _, h, l, q => nomatch q
  | .chain _ _ _ _ _, h, l, q => nomatch q
  | .and_ _, h, l, q => nomatch q
  | .or_ _, h, l, q => nomatch q
  | .not_ _, h, l, q => nomatch q
  | .ife _ _ _, h, l, q => nomatch q
  | .tup _, h, l, q => nomatch q
  | .lst _, h, l, q => nomatch q
  | .nil, h, l, q => nomatch q
  | .idx _ _, h, l, q => nomatch q
  | .slc _ _ _, h, l, q => nomatch q
  | .abs_, h, l, q => nomatch q
  | .bi _ _, h, l, q => nomatch q
  | .isi _ _, h, l, q => nomatch q
  | .fc _ _, h, l, q => nomatch q
  | .lc _ _ _ _ _, h, l, q => nomatch q
  | .lc2 _ _ _ _ _ _ _ _, h, l, q => nomatch q
  | .uniq _ _ _ _, h, l, q => nomatch q
  | .pop _ _, h, l, q => nomatch q
  | .rng _, h, l, q => nomatch q
  | .rng2 _ _, h, l, q => nomatch q
  | .enum _, h, l, q => nomatch q
  | .zip _ _, h, l, q => nomatch q
theorem give_ok : ∀ {ls : List (Option Nat)} {ds fs : List D} {vs : List V} {ff fe : List Addr} {ρ ρ' : En}, LendV σ ls vs → RepL K G H fs vs ff → EnvP K G H ρ σ fe → (ff ++ fe).Nodup → giveL ls ds fs ρ = some ρ' →
    ∃ fe', EnvP K G H ρ' σ fe' ∧ fe'.Nodup ∧ ∀ a ∈ fe', a ∈ ff ++ fe
  | [], ds, fs, vs, ff, fe, ρ, ρ', l, h, k, n, e => by
    cases ds <;> cases fs <;> simp only [giveL, Option.some.injEq, reduceCtorEq] at e
    subst e
    exact ⟨fe, k, (List.nodup_append.mp n).2.1, fun a q => List.mem_append_right _ q⟩
  | none :: ls, ds, fs, vs, ff, fe, ρ, ρ', l, h, k, n, e => by
    cases ds <;> cases fs <;> simp only [giveL, reduceCtorEq] at e
    simp only [RepL] at h
    obtain ⟨v, r, f1, f2, rfl, h1, h2, rfl⟩ := h
    obtain ⟨v', vs', e1, l⟩ := l
    cases e1
    have n2 : (f2 ++ fe).Nodup := by rw [List.append_assoc] at n; exact (List.nodup_append.mp n).2.1
    obtain ⟨fe', k1, k2, k3⟩ := give_ok l h2 k n2 e
    exact ⟨fe', k1, k2, fun a q => by rw [List.append_assoc]; exact List.mem_append_right _ (k3 a q)⟩
  | some i :: ls, ds, fs, vs, ff, fe, ρ, ρ', l, h, k, n, e => by
    cases ds <;> cases fs <;> simp only [giveL, reduceCtorEq] at e
    rename_i d ds f fs
    simp only [RepL] at h
    obtain ⟨v, r, f1, f2, rfl, h1, h2, rfl⟩ := h
    obtain ⟨v', vs', e1, s, l⟩ := l
    cases e1
    have n2 : (f2 ++ fe).Nodup := by rw [List.append_assoc] at n; exact (List.nodup_append.mp n).2.1
    split at e
    · rename_i ρ2 e2
      obtain ⟨fe', k1, k2, k3⟩ := give_ok l h2 k n2 e2
      split at e
      · cases e
        exact ⟨fe', k1, k2, fun a q => by rw [List.append_assoc]; exact List.mem_append_right _ (k3 a q)⟩
      · split at e
        · rename_i hi
          cases e
          obtain ⟨g0, g2, k4, p4⟩ := k1.over (σ := σ) hi.1 hi.2 h1
          rw [set_self s] at k4
          have ng2 : g2.Nodup := (List.nodup_append.mp (p4.nodup_iff.mpr k2)).2.1
          have mg2 : ∀ a ∈ g2, a ∈ f2 ++ fe := fun a q => k3 a (p4.mem_iff.mp (List.mem_append_right _ q))
          rw [List.append_assoc] at n
          obtain ⟨n3, _, n4⟩ := List.nodup_append.mp n
          refine ⟨f1 ++ g2, k4, List.nodup_append.mpr ⟨n3, ng2, fun a ha b hb => n4 a ha b (mg2 b hb)⟩, fun a q => ?_⟩
          rw [List.append_assoc]
          rcases List.mem_append.mp q with q | q
          · exact List.mem_append_left _ q
          · exact List.mem_append_right _ (mg2 a q)
        · cases e
    · cases e
end
end Pur

/-! Pur10: soundness of the plain expressions. -/
namespace Pur
open PySem PySem.Spec PyProof.Rows L2

structure Snd (p : Pg) (cal : Cal) (e : E) : Prop where
  pe : ∀ {c n X}, Good p cal c n X → ∀ {ast}, chkE p c e ast = true → PE X ast (tE p cal X.K e)
  pt : ∀ {c n X}, Good p cal c n X → ∀ {ast}, chkE p c e ast = true → PT X ast (tT p cal X.K e)
  pa : ∀ {c n X}, Good p cal c n X → ∀ {ls}, chkA p c e ls = true → PA X ls (tA p cal X.K e) ∧ ls.all (fun e => !isStar e) = true
  pf : ∀ {c n X}, Good p cal c n X → ∀ {ls}, chkA p c e ls = true → PA X ls (tF p cal X.K e)
  an : ∀ {c n X}, Good p cal c n X → ∀ {l ls pos}, chkA p c e (l :: ls) = true → PE X (.BoolOp .And (l :: ls) pos) (tAnd' p cal X.K e)
  ant : ∀ {c n X}, Good p cal c n X → ∀ {l ls pos}, chkA p c e (l :: ls) = true → PW X (.BoolOp .And (l :: ls) pos) (tAndT p cal X.K e)
  or : ∀ {c n X}, Good p cal c n X → ∀ {l ls pos}, chkA p c e (l :: ls) = true → PE X (.BoolOp .Or (l :: ls) pos) (tOr' p cal X.K e)
  ort : ∀ {c n X}, Good p cal c n X → ∀ {l ls pos}, chkA p c e (l :: ls) = true → PW X (.BoolOp .Or (l :: ls) pos) (tOrT p cal X.K e)
  po : ∀ {c n X}, Good p cal c n X → ∀ {x}, chkO p c e x = true → PO X x (tBd p cal X.K e)
  pi : ∀ {c n X}, Good p cal c n X → ∀ {iter tg}, chkI p c e iter tg = true → PI X tg iter (tI p cal X.K e)

section
variable {p : Pg} {cal : Cal} {X : Cx}

theorem frzL_get : ∀ {ds : List D} {i : Nat} {d : D}, frzL ds = true → ds[i]? = some d → frz d = true
  | [], i, d, _, e => by simp at e
  | x :: xs, i, d, h, e => by
    simp only [frzL, Bool.and_eq_true] at h
    cases i with
    | zero => simp at e; subst e; exact h.1
    | succ i => exact frzL_get h.2 (by simpa using e)
theorem wk_seq {K : PySem.W.Frag} {kp : D} {xs : List D} {G H : Hp} {kv : V} {fk : List Addr} (s : Same G H) (h : Rep K G H kp kv fk) (e : seqOf kp = some xs) (hf : frzL xs = true) :
    (∃ a f, kv = .ref a ∧ kp = .lst f xs ∧ (∃ vs, SqL K H a vs) ∧ Wk K (Itl K a) xs kp kv fk) ∨ (∃ a, kv = .ref a ∧ kp = .tup xs ∧ (∃ vs, SqT K H a vs) ∧ Wk K (Itt K a) xs kp kv fk) := by
  cases kp with
  | lst f ds =>
    simp only [seqOf, Option.some.injEq] at e
    subst e
    obtain ⟨a, vs, g, rfl, h1, h2, _⟩ := h.seqL s
    refine .inl ⟨a, f, rfl, rfl, ⟨vs, h1⟩, ⟨fun i G H hi s r => ?_, fun G H s r => ?_, fun i G H x H' hi s r y => ?_⟩⟩
    · obtain ⟨a', vs, g, e, h1, h2, _⟩ := r.seqL s
      cases e
      have hv : i < vs.length := by rw [← h2.length]; exact hi
      exact ⟨vs, vs[i], h1, by simp [hv]⟩
    · obtain ⟨a', vs, g, e, h1, h2, _⟩ := r.seqL s
      cases e
      exact ⟨vs, h1, by rw [h2.length]; exact Nat.le_refl _⟩
    · obtain ⟨a', vs, g, e, h1, h2, _⟩ := r.seqL s
      cases e
      obtain ⟨rfl, y⟩ := y
      obtain ⟨d, ed⟩ : ∃ d, ds[i]? = some d := ⟨ds[i], by simp [hi]⟩
      obtain ⟨v, f1, f2, e1, r1, _, _⟩ := h2.get ed
      have := y vs h1
      rw [e1] at this
      cases this
      have := Rep.fp_nil (frzL_get hf ed) r1
      subst this
      exact ⟨G, d, .refl s, ed, r1⟩
  | tup ds =>
    simp only [seqOf, Option.some.injEq] at e
    subst e
    simp only [Rep] at h
    obtain ⟨a, vs, rfl, h1, h2⟩ := h
    refine .inr ⟨a, rfl, rfl, ⟨vs, isTup s h1⟩, ⟨fun i G H hi s r => ?_, fun G H s r => ?_, fun i G H x H' hi s r y => ?_⟩⟩
    · simp only [Rep] at r
      obtain ⟨a', vs, e, h1, h2⟩ := r
      cases e
      have hv : i < vs.length := by rw [← h2.length]; exact hi
      exact ⟨vs, vs[i], isTup s h1, by simp [hv]⟩
    · simp only [Rep] at r
      obtain ⟨a', vs, e, h1, h2⟩ := r
      cases e
      exact ⟨vs, isTup s h1, by rw [h2.length]; exact Nat.le_refl _⟩
    · simp only [Rep] at r
      obtain ⟨a', vs, e, h1, h2⟩ := r
      cases e
      obtain ⟨rfl, y⟩ := y
      obtain ⟨d, ed⟩ : ∃ d, ds[i]? = some d := ⟨ds[i], by simp [hi]⟩
      obtain ⟨v, f1, f2, e1, r1, _, _⟩ := h2.get ed
      have := y vs (isTup s h1)
      rw [e1] at this
      cases this
      have := Rep.fp_nil (frzL_get hf ed) r1
      subst this
      exact ⟨G, d, .refl s, ed, r1⟩
  | _ => simp [seqOf] at e
theorem pi_or {tg e : Expr} {t u : TI} (h : PI X tg e t) (k : PI X tg e u) : PI X tg e (fun σ H R => t σ H R ∨ u σ H R) :=
  ⟨fun pins s σ H R I q => q.elim (h.run pins s σ H R I) (k.run pins s σ H R I)⟩
/-- no list of such, no bound left out, no walk of its own -/
structure Plain (p : Pg) (e : E) : Prop where
  a : ∀ c ls, chkA p c e ls = false
  j : ∀ c i tg, chkJ p c e i tg = false
  n : isAbs e = false
  it : ∀ d, itOf e d = match seqOf d with
    | some xs => if frzL xs then some (xs, d) else none
    | none => none
  bd : ∀ d, bndOf e d = match d with
    | .int i => some (some i)
    | _ => none
/-- what is walked as it is: a list, a tuple -/
theorem pi_val {e : E} {iter tg : Expr} (pl : Plain p e) (h : PE X iter (tE p cal X.K e)) : PI X tg iter (tI p cal X.K e) := by
  refine (pi_or (pi_list h) (pi_tup h)).imp fun σ H R ⟨G, fp, ρ, items, kp, ρ', hp, ev, k⟩ => ?_
  unfold evI at ev
  split at ev
  · cases ev
  · rename_i d ρ1 ed
    rw [pl.it] at ev
    split at ev
    · cases ev
    · rename_i it0 kp0 e0
      cases ev
      split at e0
      · rename_i xs es
        split at e0
        · rename_i hf
          cases e0
          cases kp with
          | lst f ds =>
            refine .inl ⟨G, fp, ρ, _, _, hp, ed, fun v G' H' fr fe P r => ?_⟩
            rcases wk_seq P.ev.h r es hf with ⟨a, f, rfl, e1, ex, w⟩ | ⟨a, _, e1, _⟩
            · exact ⟨a, rfl, ex, k _ _ _ _ _ _ P r w⟩
            · cases e1
          | tup ds =>
            refine .inr ⟨G, fp, ρ, _, _, hp, ed, fun v G' H' fr fe P r => ?_⟩
            rcases wk_seq P.ev.h r es hf with ⟨a, f, _, e1, _⟩ | ⟨a, rfl, e1, ex, w⟩
            · cases e1
            · exact ⟨a, rfl, ex, k _ _ _ _ _ _ P r w⟩
          | _ => simp [seqOf] at es
        · cases e0
      · cases e0
/-- a value that is True or False, as a test -/
theorem pt_of {e : E} {ast : Expr} (h : PE X ast (tE p cal X.K e)) (he : ∀ whole, isTrue ast X.env whole = (do let v ← whole; standAt ast.pos; holding [v] (truthy v))) : PT X ast (tT p cal X.K e) := by
  refine (pt_val h he).imp fun σ H Q ⟨G, fp, ρ, b, ρ', hp, ev, k⟩ => ⟨G, fp, ρ, _, ρ', hp, ev, fun v G' H' fr fe P r => ?_⟩
  simp only [Rep] at r
  obtain ⟨rfl, rfl⟩ := r
  exact ⟨b, rfl, k _ _ _ P⟩
theorem po_of {e : E} {l : Expr} (pl : Plain p e) (h : PE X l (tE p cal X.K e)) : PO X (some l) (tBd p cal X.K e) := by
  have := po_some h
  refine ⟨fun pins s σ H Q I ⟨G, fp, ρ, o, ρ', hp, ev, k⟩ => this.run pins s σ H Q I ?_⟩
  unfold evB at ev
  split at ev
  · cases ev
  · rename_i d ρ1 ed
    rw [pl.bd] at ev
    cases d with
    | int i =>
      cases ev
      refine ⟨G, fp, ρ, _, _, hp, ed, fun v G' H' fr fe P r => ?_⟩
      simp only [Rep] at r
      obtain ⟨rfl, rfl⟩ := r
      exact ⟨i, rfl, k _ _ _ P⟩
    | _ => cases ev

theorem Snd.plain {e : E} (pl : Plain p e)
    (pe : ∀ {c n X}, Good p cal c n X → ∀ {ast}, chkE p c e ast = true → PE X ast (tE p cal X.K e))
    (pt : ∀ {c n X}, Good p cal c n X → ∀ {ast}, chkE p c e ast = true → PT X ast (tT p cal X.K e)) : Snd p cal e where
  pe := pe
  pt := pt
  pa := fun _ _ h => by rw [pl.a] at h; cases h
  pf := fun _ _ h => by rw [pl.a] at h; cases h
  an := fun _ _ _ _ h => by rw [pl.a] at h; cases h
  ant := fun _ _ _ _ h => by rw [pl.a] at h; cases h
  or := fun _ _ _ _ h => by rw [pl.a] at h; cases h
  ort := fun _ _ _ _ h => by rw [pl.a] at h; cases h
  po := fun g x h => by
    unfold chkO at h
    cases x with
    | none => rw [pl.n] at h; cases h
    | some l =>
      simp only [Bool.and_eq_true] at h
      exact po_of pl (pe g h.2)
  pi := fun g iter tg h => by
    unfold chkI at h
    rw [pl.j, Bool.or_false] at h
    exact pi_val pl (pe g h)

section
variable {c : SC} {n : Nat}
theorem Good.vis (g : Good p cal c n X) {i : Nat} {x : Str} (h : visB c i x = true) : X.N[i]? = some x ∧ Vis X.env.scope x ∧ (x == ("__debug__" : Str)) = false ∧ (x == ("__classdict__" : Str)) = false := by
  unfold visB at h
  simp only [Bool.and_eq_true, decide_eq_true_eq, Bool.not_eq_true'] at h
  obtain ⟨⟨⟨h1, h2⟩, h3⟩, h4⟩ := h
  refine ⟨by rw [g.N]; exact h1, ?_, h3, h4⟩
  unfold Vis
  rw [g.sc]
  split at h2 <;> first | exact .inl (by assumption) | exact .inr (.inl (by assumption)) | exact .inr (.inr (by assumption)) | cases h2
theorem Good.loc (g : Good p cal c n X) {i : Nat} {x : Str} (h : locB c i x = true) : X.N[i]? = some x ∧ L2.Loc X.env.scope x ∧ (X.fn x = true ∨ X.env.scope.names.lookup x = some .local) := by
  unfold locB at h
  simp only [Bool.and_eq_true, decide_eq_true_eq] at h
  refine ⟨by rw [g.N]; exact h.1, ?_⟩
  have h2 := h.2
  unfold L2.Loc
  rw [g.sc, g.fn]
  split at h2
  · rename_i e; exact ⟨.inl e, .inr e⟩
  · rename_i e; exact ⟨.inr e, .inl h2⟩
  · cases h2
theorem Good.glo (g : Good p cal c n X) {x : Str} (h : glB c x = true) : Gl X x ∧ (x == ("__debug__" : Str)) = false := by
  unfold glB at h
  simp only [Bool.and_eq_true, Bool.not_eq_true'] at h
  refine ⟨?_, h.2⟩
  have h1 := h.1
  unfold Gl Env.kindOf
  rw [g.sc]
  split at h1
  · assumption
  · cases h1
theorem Good.hu (g : Good p cal c n X) : X.A.units + 65 < cLine := by
  have := g.room.un
  omega
theorem Good.nodup (g : Good p cal c n X) : X.N.Nodup := by rw [g.N]; exact g.nd

/-! ### names, constants -/
theorem tVar_q {K : PySem.W.Frag} {G H : Hp} {ρ : En} {σ : St} {fp : List Addr} {i : Nat} {d : D} (h : Pre K G H ρ σ fp) (e : ρ[i]? = some (some d)) :
    ∃ v f1 f2, σ[i]? = some (some v) ∧ bor d = false ∧ Rep K G H d v f1 ∧ EnvP K G H (ρ.set i none) σ f2 ∧ (f1 ++ f2).Perm fp ∧ (f1 ++ f2).Nodup := by
  obtain ⟨v, f1, f2, h1, h2, h3, h4, q⟩ := h.e.take e
  exact ⟨v, f1, f2, h1, h2, h3, h4, q, q.nodup_iff.mpr h.n⟩
theorem snd_v (m : Md) (i : Nat) : Snd p cal (.v m i) := by
  have key : ∀ {c n X}, Good p cal c n X → ∀ {ast}, chkE p c (.v m i) ast = true → PE X ast (tE p cal X.K (.v m i)) ∧ ∀ whole, isTrue ast X.env whole = (do let v ← whole; standAt ast.pos; holding [v] (truthy v)) := by
    intro c n X g ast h
    simp only [chkE] at h
    split at h
    · obtain ⟨h1, h2, h3, h4⟩ := g.vis h
      refine ⟨(pe_var h1 h2 h3 h4).imp fun σ H Q ⟨G, fp, ρ, d, ρ', hp, ev, k⟩ => ?_, fun _ => rfl⟩
      simp only [evE] at ev
      split at ev
      · rename_i d0 e0
        obtain ⟨v, f1, f2, s0, b0, r0, e2, pm, nd⟩ := tVar_q hp e0
        refine ⟨v, s0, ?_⟩
        cases m with
        | bo =>
          cases ev
          exact k v G H [] fp hp.post (r0.look hp.s)
        | mv =>
          cases ev
          refine k v G H f1 f2 ⟨.refl hp.s, e2, nd, fun a q => .inl (pm.mem_iff.mp q), fun z => by simp [isP] at z, fun z => by simp [isP] at z⟩ r0
        | fz =>
          cases ev
          have t1 : ∀ a ∈ f1, G a = none := fun a q => (r0.there a q).2
          have ev1 := shr_ev (fp := f1) hp.s t1
          have r1 : Rep X.K (shr G H f1) H (share d0) v [] := r0.share (shr_same t1) (fun a q => shr_in q) b0
          obtain ⟨_, n2, dj⟩ := List.nodup_append.mp nd
          have e3 : EnvP X.K (shr G H f1) H (ρ.set i none) σ f2 := e2.ev ev1 fun a q z => dj a z a q rfl
          have hi : i < ρ.length := (List.getElem?_eq_some_iff.mp e0).1
          have e4 := e3.back (get_set_none hi none) s0 (frz_bor (share_frz b0)) r1
          rw [List.set_set] at e4
          refine k v (shr G H f1) H [] f2 ⟨ev1.weak fun a q => pm.mem_iff.mp (List.mem_append_left _ q), e4, n2, fun a q => .inl (pm.mem_iff.mp (List.mem_append_right _ q)), fun z => by simp [isP] at z, fun z => by simp [isP] at z⟩ r1
      · cases ev
    · cases h
  exact Snd.plain ⟨fun _ _ => rfl, fun _ _ _ => rfl, rfl, fun _ => rfl, fun d => by cases d <;> rfl⟩ (fun g _ h => (key g h).1) fun g _ h => pt_of (key g h).1 (key g h).2
theorem con_q {K : PySem.W.Frag} {e : E} {d : D} {v : V} {σ : St} {H : Hp} {Q : VK} (h : tE p cal K e σ H Q) (he : ∀ ρ, evE p.gs cal e ρ = some (d, ρ)) (r : ∀ G H, Rep K G H d v []) : Q v H := by
  obtain ⟨G, fp, ρ, d', ρ', hp, ev, k⟩ := h
  rw [he] at ev
  cases ev
  exact k v G H [] fp hp.post (r G H)
theorem snd_con {e : E} {d : D} {v : V} (pl : Plain p e) (he : ∀ ρ, evE p.gs cal e ρ = some (d, ρ)) (r : ∀ K G H, Rep K G H d v [])
    (pe : ∀ {X : Cx} {c ast}, chkE p c e ast = true → PE X ast (tC v) ∧ ∃ k j pos, ast = .Constant k j pos) : Snd p cal e :=
  Snd.plain pl (fun g _ h => (pe h).1.imp fun σ H Q q => con_q q he (r _))
    fun g _ h => by
      obtain ⟨h1, k, j, pos, rfl⟩ := pe h
      exact pt_of (h1.imp fun σ H Q q => con_q q he (r _)) fun _ => rfl
theorem snd_int (i : Int) : Snd p cal (.int i) :=
  snd_con ⟨fun _ _ => rfl, fun _ _ _ => rfl, rfl, fun _ => rfl, fun d => by cases d <;> rfl⟩ (d := .int i) (v := .int i) (fun _ => rfl) (fun _ _ _ => by simp [Rep]) fun {X c ast} h => by
    simp only [chkE] at h
    split at h
    · rename_i j _ _
      have e : i = j := of_decide_eq_true h
      subst e
      exact ⟨pe_int, _, _, _, rfl⟩
    · cases h
theorem snd_bl (i : Bool) : Snd p cal (.bl i) :=
  snd_con ⟨fun _ _ => rfl, fun _ _ _ => rfl, rfl, fun _ => rfl, fun d => by cases d <;> rfl⟩ (d := .bl i) (v := .bl i) (fun _ => rfl) (fun _ _ _ => by simp [Rep]) fun {X c ast} h => by
    simp only [chkE] at h
    split at h
    · rename_i j _ _
      have e : i = j := of_decide_eq_true h
      subst e
      exact ⟨pe_bl, _, _, _, rfl⟩
    · cases h
theorem snd_str (i : Str) : Snd p cal (.str i) :=
  snd_con ⟨fun _ _ => rfl, fun _ _ _ => rfl, rfl, fun _ => rfl, fun d => by cases d <;> rfl⟩ (d := .str i) (v := .str i) (fun _ => rfl) (fun _ _ _ => by simp [Rep]) fun {X c ast} h => by
    simp only [chkE] at h
    split at h
    · rename_i j _ _
      have e : i = j := of_decide_eq_true h
      subst e
      exact ⟨pe_str, _, _, _, rfl⟩
    · cases h
theorem snd_non : Snd p cal .non :=
  snd_con ⟨fun _ _ => rfl, fun _ _ _ => rfl, rfl, fun _ => rfl, fun d => by cases d <;> rfl⟩ (d := .non) (v := .non) (fun _ => rfl) (fun _ _ _ => by simp [Rep]) fun {X c ast} h => by
    simp only [chkE] at h
    split at h
    · exact ⟨pe_non, _, _, _, rfl⟩
    · cases h
theorem snd_glob (k : Nat) : Snd p cal (.glob k) := by
  have key : ∀ {c n X}, Good p cal c n X → ∀ {ast}, chkE p c (.glob k) ast = true → PE X ast (tE p cal X.K (.glob k)) ∧ ∀ whole, isTrue ast X.env whole = (do let v ← whole; standAt ast.pos; holding [v] (truthy v)) := by
    intro c n X g ast h
    simp only [chkE] at h
    split at h
    · split at h
      · rename_i x pos y d e
        simp only [Bool.and_eq_true, decide_eq_true_eq] at h
        obtain ⟨rfl, h2⟩ := h
        obtain ⟨g1, g2⟩ := g.glo h2
        obtain ⟨fz, u, v, hm, rv, r⟩ := g.gs k _ _ e
        refine ⟨(pe_glob g1 hm rv g2).imp fun σ H Q ⟨G, fp, ρ, d', ρ', hp, ev, q⟩ => ?_, fun _ => rfl⟩
        simp only [evE, e] at ev
        cases ev
        exact q v G H [] fp hp.post (r G H)
      · cases h
    · cases h
  exact Snd.plain ⟨fun _ _ => rfl, fun _ _ _ => rfl, rfl, fun _ => rfl, fun d => by cases d <;> rfl⟩ (fun g _ h => (key g h).1) fun g _ h => pt_of (key g h).1 (key g h).2
end
end
end Pur

/-! Pur11: soundness of operations, displays, calls. -/
namespace Pur
open PySem PySem.Spec PyProof.Rows L2
section
variable {p : Pg} {cal : Cal} {X : Cx} {a b c d es : E}

theorem snd_bin (o : Bo) (ha : Snd p cal a) (hb : Snd p cal b) : Snd p cal (.bin o a b) := by
  have key : ∀ {c n X}, Good p cal c n X → ∀ {ast}, chkE p c (.bin o a b) ast = true → PE X ast (tE p cal X.K (.bin o a b)) ∧ ∀ whole, isTrue ast X.env whole = (do let v ← whole; standAt ast.pos; holding [v] (truthy v)) := by
    intro c n X g ast h
    simp only [chkE] at h
    split at h
    · simp only [Bool.and_eq_true, decide_eq_true_eq] at h
      obtain ⟨⟨rfl, h1⟩, h2⟩ := h
      obtain ⟨r, hr, ok⟩ := bin_ok (X := X) o
      refine ⟨(pe_op hr (ha.pe g h1) (hb.pe g h2)).imp fun σ H Q ⟨G, fp, ρ, d, ρ', hp, ev, k⟩ => ?_, fun _ => rfl⟩
      simp only [evE] at ev
      split at ev
      · cases ev
      · rename_i x ρ1 ea
        split at ev
        · cases ev
        · rename_i y ρ2 eb
          split at ev
          · cases ev
          · rename_i hc
            obtain ⟨z, e1, e2⟩ := Option.map_eq_some_iff.mp ev
            cases e2
            exact tE_op ok hp ea eb (by simpa using hc) e1 k
    · cases h
  exact .plain ⟨fun _ _ => rfl, fun _ _ _ => rfl, rfl, fun _ => rfl, fun d => by cases d <;> rfl⟩ (fun g _ h => (key g h).1) fun g _ h => pt_of (key g h).1 (key g h).2
theorem snd_neg (ha : Snd p cal a) : Snd p cal (.neg a) := by
  have key : ∀ {c n X}, Good p cal c n X → ∀ {ast}, chkE p c (.neg a) ast = true → PE X ast (tE p cal X.K (.neg a)) ∧ ∀ whole, isTrue ast X.env whole = (do let v ← whole; standAt ast.pos; holding [v] (truthy v)) := by
    intro c n X g ast h
    simp only [chkE] at h
    split at h
    · refine ⟨(pe_un un_neg (ha.pe g h)).imp fun σ H Q ⟨G, fp, ρ, d, ρ', hp, ev, k⟩ => ?_, fun _ => rfl⟩
      simp only [evE] at ev
      split at ev
      · rename_i i ρ1 ea
        cases ev
        refine ⟨G, fp, ρ, _, _, hp, ea, fun v G' H' fr fe P r => ?_⟩
        simp only [Rep] at r
        obtain ⟨rfl, rfl⟩ := r
        exact ⟨i, rfl, k _ _ _ _ _ P (by simp [Rep])⟩
      · cases ev
    · cases h
  exact .plain ⟨fun _ _ => rfl, fun _ _ _ => rfl, rfl, fun _ => rfl, fun d => by cases d <;> rfl⟩ (fun g _ h => (key g h).1) fun g _ h => pt_of (key g h).1 (key g h).2
/-- a test by a value's rule -/
theorem tT_of_tE {K : PySem.W.Frag} {e : E} {σ : St} {H : Hp} {Q : Bool → Hp → Prop} (h : tT p cal K e σ H Q) : tE p cal K e σ H fun x H' => ∃ k, x = .bl k ∧ Q k H' := by
  obtain ⟨G, fp, ρ, b, ρ', hp, ev, k⟩ := h
  refine ⟨G, fp, ρ, _, ρ', hp, ev, fun v G' H' fr fe P r => ?_⟩
  simp only [Rep] at r
  obtain ⟨rfl, rfl⟩ := r
  exact ⟨b, rfl, k _ _ _ P⟩
theorem snd_cmp (o : Co) (ha : Snd p cal a) (hb : Snd p cal b) : Snd p cal (.cmp o a b) := by
  have key : ∀ {c n X}, Good p cal c n X → ∀ {ast}, chkE p c (.cmp o a b) ast = true → PE X ast (tE p cal X.K (.cmp o a b)) ∧ PT X ast (tT p cal X.K (.cmp o a b)) := by
    intro c n X g ast h
    simp only [chkE] at h
    split at h
    · simp only [Bool.and_eq_true, decide_eq_true_eq, Bool.not_eq_true'] at h
      obtain ⟨⟨⟨rfl, hm⟩, h1⟩, h2⟩ := h
      obtain ⟨r, hr, ok⟩ := cmp_ok (X := X) g.hu o
      have main : ∀ σ H Q, tE p cal X.K (.cmp o a b) σ H Q → tOp r (tE p cal X.K a) (tE p cal X.K b) σ H Q := fun σ H Q ⟨G, fp, ρ, d, ρ', hp, ev, k⟩ => by
        simp only [evE] at ev
        split at ev
        · cases ev
        · rename_i x ρ1 ea
          split at ev
          · cases ev
          · rename_i y ρ2 eb
            split at ev
            · cases ev
            · rename_i hc
              obtain ⟨z, e1, e2⟩ := Option.map_eq_some_iff.mp ev
              cases e2
              exact tE_op ok hp ea eb (by simpa using hc) e1 k
      exact ⟨(pe_cmpR hr (ha.pe g h1) (hb.pe g h2) hm).imp main, (pt_cmpR hr (ha.pe g h1) (hb.pe g h2) hm).imp fun σ H Q q => main σ H _ (tT_of_tE q)⟩
    · cases h
  exact .plain ⟨fun _ _ => rfl, fun _ _ _ => rfl, rfl, fun _ => rfl, fun d => by cases d <;> rfl⟩ (fun g _ h => (key g h).1) fun g _ h => (key g h).2
theorem snd_chain (o o' : Co) (ha : Snd p cal a) (hb : Snd p cal b) (hd : Snd p cal d) : Snd p cal (.chain o o' a b d) := by
  have key : ∀ {c n X}, Good p cal c n X → ∀ {ast}, chkE p c (.chain o o' a b d) ast = true → PE X ast (tE p cal X.K (.chain o o' a b d)) ∧ PT X ast (tT p cal X.K (.chain o o' a b d)) := by
    intro c n X g ast h
    simp only [chkE] at h
    split at h
    · simp only [Bool.and_eq_true, decide_eq_true_eq, Bool.not_eq_true'] at h
      obtain ⟨⟨⟨⟨⟨rfl, rfl⟩, hm⟩, h1⟩, h2⟩, h3⟩ := h
      obtain ⟨r, hr, ok⟩ := cmp_ok (X := X) g.hu o
      obtain ⟨r', hr', ok'⟩ := cmp_ok (X := X) g.hu o'
      have main : ∀ σ H Q, tE p cal X.K (.chain o o' a b d) σ H Q → tChain r r' (tE p cal X.K a) (tE p cal X.K b) (tE p cal X.K d) σ H Q := fun σ H Q ⟨G, fp, ρ, w, ρ', hp, ev, k⟩ => by
        simp only [evE] at ev
        split at ev
        · cases ev
        · rename_i x ρ1 ea
          split at ev
          · cases ev
          · rename_i y ρ2 eb
            split at ev
            · cases ev
            · rename_i hc
              refine tE_two hp ea eb (by simpa using hc) fun u v G2 H2 f1 f2 fe P r1 r2 => ?_
              split at ev
              · rename_i e1
                split at ev
                · cases ev
                · rename_i z ρ3 ez
                  split at ev
                  · cases ev
                  · rename_i hc2
                    obtain ⟨t, e3, e4⟩ := Option.map_eq_some_iff.mp ev
                    cases e4
                    refine ok G2 H2 x y u v f1 f2 _ _ P.ev.h r1 r2 P.ndr e1 fun zz G3 H3 fr E3 rz nz mz => ?_
                    simp only [Rep] at rz
                    obtain ⟨rfl, rfl⟩ := rz
                    refine ⟨true, rfl, ?_⟩
                    rw [if_pos rfl]
                    have P3 := P.step (f2 := f2) (ne_app r1.ne r2.ne) E3 (List.nodup_append.mp P.ndr).2.1 fun q hq => .inl (List.mem_append_right _ hq)
                    have r3 := r2.ev E3 (fun q _ z => nomatch z) (.inr rfl)
                    refine ⟨G3, fe, ρ2, z, _, P3.pre, ez, fun w G4 H4 f4 fe4 P4 r4 => ?_⟩
                    have PP := P3.trans r3.ne P4
                    exact ok' G4 H4 y z v w f2 f4 _ _ P4.ev.h (r3.then P3.dj P4 (by simpa using hc2)) r4 PP.ndr e3 (fin_q PP (ne_app (r3.then P3.dj P4 (by simpa using hc2)).ne r4.ne) fun v G' H' fr fe P r => k v G' H' fr fe P r)
              · rename_i e1
                cases ev
                refine ok G2 H2 x y u v f1 f2 _ _ P.ev.h r1 r2 P.ndr e1 fun zz G3 H3 fr E3 rz nz mz => ?_
                have rz' := rz
                simp only [Rep] at rz
                obtain ⟨rfl, rfl⟩ := rz
                refine ⟨false, rfl, ?_⟩
                rw [if_neg Bool.false_ne_true]
                exact k _ G3 H3 [] fe ((P.step (ne_app r1.ne r2.ne) E3 .nil fun q hq => nomatch hq).imp fun z => by
                  simp only [isP, Bool.and_eq_true] at z ⊢
                  exact z.1) rz'
              · cases ev
      exact ⟨(pe_chain hr hr' (ha.pe g h1) (hb.pe g h2) (hd.pe g h3) hm).imp main, (pt_chain hr hr' (ha.pe g h1) (hb.pe g h2) (hd.pe g h3) hm).imp fun σ H Q q => main σ H _ (tT_of_tE q)⟩
    · cases h
  exact .plain ⟨fun _ _ => rfl, fun _ _ _ => rfl, rfl, fun _ => rfl, fun d => by cases d <;> rfl⟩ (fun g _ h => (key g h).1) fun g _ h => (key g h).2
theorem snd_not (ha : Snd p cal a) : Snd p cal (.not_ a) := by
  have key : ∀ {c n X}, Good p cal c n X → ∀ {ast}, chkE p c (.not_ a) ast = true → PE X ast (tE p cal X.K (.not_ a)) ∧ PT X ast (tT p cal X.K (.not_ a)) := by
    intro c n X g ast h
    simp only [chkE] at h
    split at h
    · refine ⟨(pe_not (ha.pe g h)).imp fun σ H Q ⟨G, fp, ρ, d, ρ', hp, ev, k⟩ => ?_, (pt_not (ha.pt g h)).imp fun σ H Q ⟨G, fp, ρ, d, ρ', hp, ev, k⟩ => ?_⟩
      · simp only [evE] at ev
        split at ev
        · rename_i i ρ1 ea
          cases ev
          refine ⟨G, fp, ρ, _, _, hp, ea, fun v G' H' fr fe P r => ?_⟩
          simp only [Rep] at r
          obtain ⟨rfl, rfl⟩ := r
          exact ⟨i, rfl, k _ _ _ _ _ P (by simp [Rep])⟩
        · cases ev
      · simp only [evE] at ev
        split at ev
        · rename_i i ρ1 ea
          cases ev
          exact ⟨G, fp, ρ, _, _, hp, ea, fun G' H' fe P => k _ _ _ P⟩
        · cases ev
    · cases h
  exact .plain ⟨fun _ _ => rfl, fun _ _ _ => rfl, rfl, fun _ => rfl, fun d => by cases d <;> rfl⟩ (fun g _ h => (key g h).1) fun g _ h => (key g h).2
theorem snd_and (ha : Snd p cal es) : Snd p cal (.and_ es) := by
  have key : ∀ {c n X}, Good p cal c n X → ∀ {ast}, chkE p c (.and_ es) ast = true → PE X ast (tE p cal X.K (.and_ es)) ∧ PT X ast (tT p cal X.K (.and_ es)) := by
    intro c n X g ast h
    simp only [chkE] at h
    split at h
    · exact ⟨(ha.an g h).imp fun σ H Q ⟨G, fp, ρ, d, ρ', hp, ev, k⟩ => ⟨G, fp, ρ, d, ρ', hp, ev, k⟩, (ha.ant g h).pt.imp fun σ H Q ⟨G, fp, ρ, d, ρ', hp, ev, k⟩ => ⟨G, fp, ρ, d, ρ', hp, ev, k⟩⟩
    · cases h
  exact .plain ⟨fun _ _ => rfl, fun _ _ _ => rfl, rfl, fun _ => rfl, fun d => by cases d <;> rfl⟩ (fun g _ h => (key g h).1) fun g _ h => (key g h).2
theorem snd_or (ha : Snd p cal es) : Snd p cal (.or_ es) := by
  have key : ∀ {c n X}, Good p cal c n X → ∀ {ast}, chkE p c (.or_ es) ast = true → PE X ast (tE p cal X.K (.or_ es)) ∧ PT X ast (tT p cal X.K (.or_ es)) := by
    intro c n X g ast h
    simp only [chkE] at h
    split at h
    · exact ⟨(ha.or g h).imp fun σ H Q ⟨G, fp, ρ, d, ρ', hp, ev, k⟩ => ⟨G, fp, ρ, d, ρ', hp, ev, k⟩, (ha.ort g h).pt.imp fun σ H Q ⟨G, fp, ρ, d, ρ', hp, ev, k⟩ => ⟨G, fp, ρ, d, ρ', hp, ev, k⟩⟩
    · cases h
  exact .plain ⟨fun _ _ => rfl, fun _ _ _ => rfl, rfl, fun _ => rfl, fun d => by cases d <;> rfl⟩ (fun g _ h => (key g h).1) fun g _ h => (key g h).2
theorem pt_ife {l x y : Expr} {pos : Pos} {tc ta tb : TT} (hc : PT X l tc) (ha : PT X x ta) (hb : PT X y tb) : PT X (.IfExp l x y pos) (fun σ H Q => tc σ H fun k H1 => if k = true then ta σ H1 Q else tb σ H1 Q) := by
  refine ⟨fun pins s σ H Q I h => ?_⟩
  show wpAny _ _ (do if ← isTrue l X.env (eval l X.env) then isTrue x X.env (eval x X.env) else isTrue y X.env (eval y X.env)) _ _ _
  refine wpAny_bind (thn (hc.run pins s σ H _ I h) fun k s1 ⟨H1, I1, q⟩ => ?_)
  cases k with
  | true => exact ha.run pins s1 σ H1 Q I1 q
  | false => exact hb.run pins s1 σ H1 Q I1 q
theorem snd_ife (hc : Snd p cal d) (ha : Snd p cal a) (hb : Snd p cal b) : Snd p cal (.ife d a b) := by
  have key : ∀ {c n X}, Good p cal c n X → ∀ {ast}, chkE p c (.ife d a b) ast = true → PE X ast (tE p cal X.K (.ife d a b)) ∧ PT X ast (tT p cal X.K (.ife d a b)) := by
    intro c n X g ast h
    simp only [chkE] at h
    split at h
    · simp only [Bool.and_eq_true] at h
      obtain ⟨⟨h1, h2⟩, h3⟩ := h
      refine ⟨(pe_ifExp (hc.pt g h1) (ha.pe g h2) (hb.pe g h3)).imp fun σ H Q ⟨G, fp, ρ, w, ρ', hp, ev, k⟩ => ?_, (pt_ife (hc.pt g h1) (ha.pt g h2) (hb.pt g h3)).imp fun σ H Q ⟨G, fp, ρ, w, ρ', hp, ev, k⟩ => ?_⟩
      · simp only [evE] at ev
        split at ev
        · rename_i ρ1 ec
          refine ⟨G, fp, ρ, _, _, hp, ec, fun G' H' fe P => ?_⟩
          refine iteT ⟨G', fe, ρ1, w, ρ', P.pre, ev, fun v G2 H2 fr fe2 P2 r => k v G2 H2 fr fe2 ((P.trans (f1 := []) (fun x z => nomatch z) P2).imp fun z => ?_) r⟩
          simp only [isP, Bool.and_eq_true] at z ⊢
          exact z.1
        · rename_i ρ1 ec
          refine ⟨G, fp, ρ, _, _, hp, ec, fun G' H' fe P => ?_⟩
          refine iteF ⟨G', fe, ρ1, w, ρ', P.pre, ev, fun v G2 H2 fr fe2 P2 r => k v G2 H2 fr fe2 ((P.trans (f1 := []) (fun x z => nomatch z) P2).imp fun z => ?_) r⟩
          simp only [isP, Bool.and_eq_true] at z ⊢
          exact ⟨z.1.1, z.2⟩
        · cases ev
      · simp only [evE] at ev
        split at ev
        · rename_i ρ1 ec
          refine ⟨G, fp, ρ, _, _, hp, ec, fun G' H' fe P => ?_⟩
          refine iteT ⟨G', fe, ρ1, w, ρ', P.pre, ev, fun G2 H2 fe2 P2 => k G2 H2 fe2 ((P.trans (f1 := []) (fun x z => nomatch z) P2).imp fun z => ?_)⟩
          simp only [isP, Bool.and_eq_true] at z ⊢
          exact z.1
        · rename_i ρ1 ec
          refine ⟨G, fp, ρ, _, _, hp, ec, fun G' H' fe P => ?_⟩
          refine iteF ⟨G', fe, ρ1, w, ρ', P.pre, ev, fun G2 H2 fe2 P2 => k G2 H2 fe2 ((P.trans (f1 := []) (fun x z => nomatch z) P2).imp fun z => ?_)⟩
          simp only [isP, Bool.and_eq_true] at z ⊢
          exact ⟨z.1.1, z.2⟩
        · cases ev
    · cases h
  exact .plain ⟨fun _ _ => rfl, fun _ _ _ => rfl, rfl, fun _ => rfl, fun d => by cases d <;> rfl⟩ (fun g _ h => (key g h).1) fun g _ h => (key g h).2
end
end Pur

/-! Pur12: soundness of lists of expressions, displays, items, calls. -/
namespace Pur
open PySem PySem.Spec PyProof.Rows L2
section
variable {p : Pg} {cal : Cal} {X : Cx} {a b c d es : E}

theorem pe_none {e : E} {ast : Expr} {K : PySem.W.Frag} (h : ∀ ρ, evE p.gs cal e ρ = none) : PE X ast (tE p cal K e) :=
  ⟨fun _ _ _ _ _ _ ⟨_, _, ρ, _, _, _, ev, _⟩ => by rw [h] at ev; cases ev⟩
theorem pt_none {e : E} {ast : Expr} {K : PySem.W.Frag} (h : ∀ ρ, evE p.gs cal e ρ = none) : PT X ast (tT p cal K e) :=
  ⟨fun _ _ _ _ _ _ ⟨_, _, ρ, _, _, _, ev, _⟩ => by rw [h] at ev; cases ev⟩
theorem snd_lend (i : Nat) : Snd p cal (.lend i) :=
  .plain ⟨fun _ _ => rfl, fun _ _ _ => rfl, rfl, fun _ => rfl, fun d => by cases d <;> rfl⟩ (fun g _ h => pe_none fun _ => rfl) fun g _ h => pt_none fun _ => rfl

/-! ### lists -/
theorem snd_nil : Snd p cal .nil where
  pe := fun _ _ h => by simp [chkE] at h
  pt := fun _ _ h => by simp [chkE] at h
  pa := fun g ls h => by
    simp only [chkA] at h
    split at h
    · exact ⟨pa_nil.imp fun σ H Q ⟨G, fp, ρ, ds, ρ', hp, ev, k⟩ => by
        simp only [evA] at ev
        cases ev
        exact k [] G H [] fp hp.post (by simp [RepL]), rfl⟩
    · cases h
  pf := fun g ls h => by
    simp only [chkA] at h
    split at h
    · exact pa_nil.imp fun σ H Q ⟨G, fp, ρ, ds, ρ', hp, ev, k⟩ => by
        simp only [evF] at ev
        cases ev
        exact k [] G H [] fp hp.post (by simp [RepF, lends])
    · cases h
  an := fun _ _ _ _ h => by simp [chkA] at h
  ant := fun _ _ _ _ h => by simp [chkA] at h
  or := fun _ _ _ _ h => by simp [chkA] at h
  ort := fun _ _ _ _ h => by simp [chkA] at h
  po := fun g x h => by
    cases x <;> simp [chkO, chkE, isAbs] at h
  pi := fun g i tg h => by simp [chkI, chkE, chkJ] at h
theorem chkA_nil {c : SC} {es : E} (h : chkA p c es [] = true) : isNil es = true := by
  cases es <;> simp [chkA] at h <;> rfl
theorem chkA_cons {c : SC} {es : E} {l : Expr} {ls : List Expr} (h : chkA p c es (l :: ls) = true) : isNil es = false := by
  cases es <;> simp [chkA] at h <;> rfl
theorem lendOf_some {a : E} {i : Nat} (h : lendOf a = some i) : a = .lend i := by
  cases a <;> simp [lendOf] at h
  rw [h]
theorem snd_cons (ha : Snd p cal a) (hs : Snd p cal es) : Snd p cal (.cons a es) where
  pe := fun _ _ h => by simp [chkE] at h
  pt := fun _ _ h => by simp [chkE] at h
  pa := fun {c n X} g ls h => by
    simp only [chkA] at h
    split at h
    · rename_i l ls
      simp only [Bool.and_eq_true, Bool.not_eq_true'] at h
      obtain ⟨⟨h0, h1⟩, h2⟩ := h
      obtain ⟨q1, q2⟩ := hs.pa g h2
      refine ⟨(pa_cons (ha.pe g h1) q1 (starEach_cons h0)).imp fun σ H Q ⟨G, fp, ρ, ds, ρ', hp, ev, k⟩ => ?_, by simp only [List.all_cons, h0, q2]; rfl⟩
      simp only [evA] at ev
      split at ev
      · cases ev
      · rename_i x ρ1 ea
        split at ev
        · cases ev
        · rename_i xs ρ2 eb
          split at ev
          · cases ev
          · rename_i hc
            cases ev
            refine ⟨G, fp, ρ, x, ρ1, hp, ea, fun u G1 H1 f1 fe P1 r1 => ⟨G1, fe, ρ1, xs, _, P1.pre, eb, fun vs G2 H2 f2 fe2 P2 r2 => ?_⟩⟩
            refine k (u :: vs) G2 H2 (f1 ++ f2) fe2 (P1.trans r1.ne P2) ?_
            simp only [RepL]
            exact ⟨u, vs, f1, f2, rfl, r1.then P1.dj P2 (by simpa using hc), r2, rfl⟩
    · cases h
  pf := fun {c n X} g ls h => by
    simp only [chkA] at h
    split at h
    · rename_i l ls
      simp only [Bool.and_eq_true, Bool.not_eq_true'] at h
      obtain ⟨⟨h0, h1⟩, h2⟩ := h
      have q1 := hs.pf g h2
      cases hl : lendOf a with
      | some i =>
        have := lendOf_some hl
        subst this
        simp only [chkE] at h1
        split at h1
        · obtain ⟨g1, g2, g3, g4⟩ := g.vis h1
          refine (pa_cons (pe_var g1 g2 g3 g4) q1 (starEach_cons h0)).imp fun σ H Q ⟨G, fp, ρ, ds, ρ', hp, ev, k⟩ => ?_
          simp only [evF, lendOf] at ev
          split at ev
          · rename_i d0 e0
            split at ev
            · rename_i xs ρ2 eb
              cases ev
              obtain ⟨v, f1, f2, s0, b0, r0, e2, pm, nd⟩ := tVar_q hp e0
              refine ⟨v, s0, G, fp, ρ, xs, _, hp, eb, fun vs G2 H2 f2 fe2 P2 r2 => k (v :: vs) G2 H2 f2 fe2 (P2.imp fun z => by simp [isP] at z) ?_⟩
              simp only [lends, lendOf, RepF]
              exact ⟨_, _, v, vs, rfl, rfl, s0, r2⟩
            · cases ev
          · cases ev
        · cases h1
      | none =>
        refine (pa_cons (ha.pe g h1) q1 (starEach_cons h0)).imp fun σ H Q ⟨G, fp, ρ, ds, ρ', hp, ev, k⟩ => ?_
        simp only [evF, hl] at ev
        split at ev
        · cases ev
        · rename_i x ρ1 ea
          split at ev
          · cases ev
          · rename_i xs ρ2 eb
            split at ev
            · cases ev
            · rename_i hc
              cases ev
              refine ⟨G, fp, ρ, x, ρ1, hp, ea, fun u G1 H1 f1 fe P1 r1 => ⟨G1, fe, ρ1, xs, _, P1.pre, eb, fun vs G2 H2 f2 fe2 P2 r2 => ?_⟩⟩
              refine k (u :: vs) G2 H2 (f1 ++ f2) fe2 (P1.trans r1.ne P2) ?_
              simp only [lends, hl, RepF]
              have hb : bor x = false := by simpa using hc
              exact ⟨x, xs, u, vs, f1, f2, rfl, rfl, hb, r1.then P1.dj P2 (by simp [hb]), r2, rfl⟩
    · cases h
  an := fun {c n X} g l ls pos h => by
    simp only [chkA, Bool.and_eq_true, Bool.not_eq_true'] at h
    obtain ⟨⟨h0, h1⟩, h2⟩ := h
    cases ls with
    | nil =>
      have hn := chkA_nil h2
      refine (pe_one (ha.pe g h1)).imp fun σ H Q ⟨G, fp, ρ, w, ρ', hp, ev, k⟩ => ?_
      simp only [evAnd, hn] at ev
      refine ⟨G, fp, ρ, w, ρ', hp, ev, fun v G' H' fr fe P r => k v G' H' fr fe (P.imp fun z => ?_) r⟩
      simp only [isP, Bool.and_eq_true] at z
      exact z.1
    | cons l2 ls =>
      have hn := chkA_cons h2
      refine (pe_and (ha.pe g h1) (hs.an g h2)).imp fun σ H Q ⟨G, fp, ρ, w, ρ', hp, ev, k⟩ => ?_
      simp only [evAnd, hn] at ev
      split at ev
      · rename_i ρ1 ea
        refine ⟨G, fp, ρ, _, ρ1, hp, ea, fun v G1 H1 f1 fe P1 r1 => ?_⟩
        simp only [Rep] at r1
        obtain ⟨rfl, rfl⟩ := r1
        exact ⟨true, rfl, iteT ⟨G1, fe, ρ1, w, ρ', P1.pre, ev, fun v G2 H2 fr fe2 P2 r => k v G2 H2 fr fe2 (P1.trans (f1 := []) (fun x z => nomatch z) P2) r⟩⟩
      · rename_i ρ1 ea
        cases ev
        refine ⟨G, fp, ρ, _, _, hp, ea, fun v G1 H1 f1 fe P1 r1 => ?_⟩
        have r1' := r1
        simp only [Rep] at r1
        obtain ⟨rfl, rfl⟩ := r1
        refine ⟨false, rfl, iteF (k _ G1 H1 [] fe (P1.imp fun z => ?_) r1')⟩
        simp only [isP, Bool.and_eq_true] at z
        exact z.1
      · cases ev
  or := fun {c n X} g l ls pos h => by
    simp only [chkA, Bool.and_eq_true, Bool.not_eq_true'] at h
    obtain ⟨⟨h0, h1⟩, h2⟩ := h
    cases ls with
    | nil =>
      have hn := chkA_nil h2
      refine (pe_one (ha.pe g h1)).imp fun σ H Q ⟨G, fp, ρ, w, ρ', hp, ev, k⟩ => ?_
      simp only [evOr, hn] at ev
      refine ⟨G, fp, ρ, w, ρ', hp, ev, fun v G' H' fr fe P r => k v G' H' fr fe (P.imp fun z => ?_) r⟩
      simp only [isP, Bool.and_eq_true] at z
      exact z.1
    | cons l2 ls =>
      have hn := chkA_cons h2
      refine (pe_or (ha.pe g h1) (hs.or g h2)).imp fun σ H Q ⟨G, fp, ρ, w, ρ', hp, ev, k⟩ => ?_
      simp only [evOr, hn] at ev
      split at ev
      · rename_i ρ1 ea
        refine ⟨G, fp, ρ, _, ρ1, hp, ea, fun v G1 H1 f1 fe P1 r1 => ?_⟩
        simp only [Rep] at r1
        obtain ⟨rfl, rfl⟩ := r1
        exact ⟨false, rfl, iteF ⟨G1, fe, ρ1, w, ρ', P1.pre, ev, fun v G2 H2 fr fe2 P2 r => k v G2 H2 fr fe2 (P1.trans (f1 := []) (fun x z => nomatch z) P2) r⟩⟩
      · rename_i ρ1 ea
        cases ev
        refine ⟨G, fp, ρ, _, _, hp, ea, fun v G1 H1 f1 fe P1 r1 => ?_⟩
        have r1' := r1
        simp only [Rep] at r1
        obtain ⟨rfl, rfl⟩ := r1
        refine ⟨true, rfl, iteT (k _ G1 H1 [] fe (P1.imp fun z => ?_) r1')⟩
        simp only [isP, Bool.and_eq_true] at z
        exact z.1
      · cases ev
  ant := fun {c n X} g l ls pos h => by
    simp only [chkA, Bool.and_eq_true, Bool.not_eq_true'] at h
    obtain ⟨⟨h0, h1⟩, h2⟩ := h
    cases ls with
    | nil =>
      have hn := chkA_nil h2
      refine ⟨fun wh pins s σ H Q I ⟨G, fp, ρ, w, ρ', hp, ev, k⟩ => (pw_and1 (ha.pt g h1)).run wh pins s σ H Q I ?_⟩
      simp only [evAnd, hn] at ev
      refine ⟨G, fp, ρ, w, ρ', hp, ev, fun G' H' fe P => k G' H' fe (P.imp fun z => ?_)⟩
      simp only [isP, Bool.and_eq_true] at z
      exact z.1
    | cons l2 ls =>
      have hn := chkA_cons h2
      refine ⟨fun wh pins s σ H Q I ⟨G, fp, ρ, w, ρ', hp, ev, k⟩ => (pw_and (ha.pt g h1) (hs.ant g h2)).run wh pins s σ H Q I ?_⟩
      simp only [evAnd, hn] at ev
      split at ev
      · rename_i ρ1 ea
        exact ⟨G, fp, ρ, _, ρ1, hp, ea, fun G1 H1 fe P1 => iteT ⟨G1, fe, ρ1, w, ρ', P1.pre, ev, fun G2 H2 fe2 P2 => k G2 H2 fe2 (P1.trans (f1 := []) (fun x z => nomatch z) P2)⟩⟩
      · rename_i ρ1 ea
        cases ev
        refine ⟨G, fp, ρ, _, _, hp, ea, fun G1 H1 fe P1 => iteF (k G1 H1 fe (P1.imp fun z => ?_))⟩
        simp only [isP, Bool.and_eq_true] at z
        exact z.1
      · cases ev
  ort := fun {c n X} g l ls pos h => by
    simp only [chkA, Bool.and_eq_true, Bool.not_eq_true'] at h
    obtain ⟨⟨h0, h1⟩, h2⟩ := h
    cases ls with
    | nil =>
      have hn := chkA_nil h2
      refine ⟨fun wh pins s σ H Q I ⟨G, fp, ρ, w, ρ', hp, ev, k⟩ => (pw_or1 (ha.pt g h1)).run wh pins s σ H Q I ?_⟩
      simp only [evOr, hn] at ev
      refine ⟨G, fp, ρ, w, ρ', hp, ev, fun G' H' fe P => k G' H' fe (P.imp fun z => ?_)⟩
      simp only [isP, Bool.and_eq_true] at z
      exact z.1
    | cons l2 ls =>
      have hn := chkA_cons h2
      refine ⟨fun wh pins s σ H Q I ⟨G, fp, ρ, w, ρ', hp, ev, k⟩ => (pw_or (ha.pt g h1) (hs.ort g h2)).run wh pins s σ H Q I ?_⟩
      simp only [evOr, hn] at ev
      split at ev
      · rename_i ρ1 ea
        exact ⟨G, fp, ρ, _, ρ1, hp, ea, fun G1 H1 fe P1 => iteF ⟨G1, fe, ρ1, w, ρ', P1.pre, ev, fun G2 H2 fe2 P2 => k G2 H2 fe2 (P1.trans (f1 := []) (fun x z => nomatch z) P2)⟩⟩
      · rename_i ρ1 ea
        cases ev
        refine ⟨G, fp, ρ, _, _, hp, ea, fun G1 H1 fe P1 => iteT (k G1 H1 fe (P1.imp fun z => ?_))⟩
        simp only [isP, Bool.and_eq_true] at z
        exact z.1
      · cases ev
  po := fun g x h => by
    cases x <;> simp [chkO, chkE, isAbs] at h
  pi := fun g i tg h => by simp [chkI, chkE, chkJ] at h
theorem snd_abs : Snd p cal .abs_ where
  pe := fun _ _ h => by simp [chkE] at h
  pt := fun _ _ h => by simp [chkE] at h
  pa := fun _ _ h => by simp [chkA] at h
  pf := fun _ _ h => by simp [chkA] at h
  an := fun _ _ _ _ h => by simp [chkA] at h
  ant := fun _ _ _ _ h => by simp [chkA] at h
  or := fun _ _ _ _ h => by simp [chkA] at h
  ort := fun _ _ _ _ h => by simp [chkA] at h
  po := fun g x h => by
    cases x with
    | none =>
      refine ⟨fun pins s σ H Q I ⟨G, fp, ρ, o, ρ', hp, ev, k⟩ => po_none.run pins s σ H Q I ?_⟩
      simp only [evB, evE, bndOf] at ev
      cases ev
      exact k G H fp hp.post
    | some l => simp [chkO, isAbs] at h
  pi := fun g i tg h => by simp [chkI, chkE, chkJ] at h

/-! ### displays -/
theorem snd_tup (hs : Snd p cal es) : Snd p cal (.tup es) := by
  have key : ∀ {c n X}, Good p cal c n X → ∀ {ast}, chkE p c (.tup es) ast = true → PE X ast (tE p cal X.K (.tup es)) ∧ ∀ whole, isTrue ast X.env whole = (do let v ← whole; standAt ast.pos; holding [v] (truthy v)) := by
    intro c n X g ast h
    simp only [chkE] at h
    split at h
    · refine ⟨(pe_tup (hs.pa g h).1).imp fun σ H Q ⟨G, fp, ρ, w, ρ', hp, ev, k⟩ => ?_, fun _ => rfl⟩
      simp only [evE] at ev
      split at ev
      · rename_i ds ρ1 ea
        split at ev
        · rename_i hl
          cases ev
          refine ⟨G, fp, ρ, ds, _, hp, ea, fun vs G1 H1 fr fe P r => ⟨?_, fun q hq => ?_⟩⟩
          · rw [← r.length]
            have : sizeLine = 16777216 := sizeLine_eq
            omega
          · exact tup_q P.ev.h r hq P.ndr (fun x hx => .inl hx) (fin_q P r.ne k)
        · cases ev
      · cases ev
    · cases h
  exact .plain ⟨fun _ _ => rfl, fun _ _ _ => rfl, rfl, fun _ => rfl, fun d => by cases d <;> rfl⟩ (fun g _ h => (key g h).1) fun g _ h => pt_of (key g h).1 (key g h).2
theorem snd_lst (hs : Snd p cal es) : Snd p cal (.lst es) := by
  have key : ∀ {c n X}, Good p cal c n X → ∀ {ast}, chkE p c (.lst es) ast = true → PE X ast (tE p cal X.K (.lst es)) ∧ ∀ whole, isTrue ast X.env whole = (do let v ← whole; standAt ast.pos; holding [v] (truthy v)) := by
    intro c n X g ast h
    simp only [chkE] at h
    split at h
    · refine ⟨(pe_lst (hs.pa g h).1).imp fun σ H Q ⟨G, fp, ρ, w, ρ', hp, ev, k⟩ => ?_, fun _ => rfl⟩
      simp only [evE] at ev
      split at ev
      · rename_i ds ρ1 ea
        split at ev
        · rename_i hl
          cases ev
          refine ⟨G, fp, ρ, ds, _, hp, ea, fun vs G1 H1 fr fe P r => ⟨?_, fun q hq => ?_⟩⟩
          · rw [← r.length]
            have : sizeLine = 16777216 := sizeLine_eq
            omega
          · exact lst_q P.ev.h r hq P.ndr (fun x hx => .inl hx) (fin_q P r.ne k)
        · cases ev
      · cases ev
    · cases h
  exact .plain ⟨fun _ _ => rfl, fun _ _ _ => rfl, rfl, fun _ => rfl, fun d => by cases d <;> rfl⟩ (fun g _ h => (key g h).1) fun g _ h => pt_of (key g h).1 (key g h).2

/-! ### items, slices -/
theorem plainIx {s : Expr} (h : isSlice s = false) : PlainIx s := by
  intro o i
  cases s <;> first | rfl | cases h
theorem snd_idx (ha : Snd p cal a) (hb : Snd p cal b) : Snd p cal (.idx a b) := by
  have key : ∀ {c n X}, Good p cal c n X → ∀ {ast}, chkE p c (.idx a b) ast = true → PE X ast (tE p cal X.K (.idx a b)) ∧ ∀ whole, isTrue ast X.env whole = (do let v ← whole; standAt ast.pos; holding [v] (truthy v)) := by
    intro c n X g ast h
    simp only [chkE] at h
    split at h
    · simp only [Bool.and_eq_true, Bool.not_eq_true'] at h
      obtain ⟨⟨h0, h1⟩, h2⟩ := h
      obtain ⟨r, hr, ok⟩ := idx_ok (X := X)
      refine ⟨(pe_ix hr (ha.pe g h1) (hb.pe g h2) (plainIx h0)).imp fun σ H Q ⟨G, fp, ρ, d, ρ', hp, ev, k⟩ => ?_, fun _ => rfl⟩
      simp only [evE] at ev
      split at ev
      · cases ev
      · rename_i x ρ1 ea
        split at ev
        · cases ev
        · rename_i y ρ2 eb
          split at ev
          · cases ev
          · rename_i hc
            obtain ⟨z, e1, e2⟩ := Option.map_eq_some_iff.mp ev
            cases e2
            exact tE_op ok hp ea eb (by simpa using hc) e1 k
    · cases h
  exact .plain ⟨fun _ _ => rfl, fun _ _ _ => rfl, rfl, fun _ => rfl, fun d => by cases d <;> rfl⟩ (fun g _ h => (key g h).1) fun g _ h => pt_of (key g h).1 (key g h).2
theorem snd_slc (ha : Snd p cal a) (hb : Snd p cal b) (hd : Snd p cal d) : Snd p cal (.slc a b d) := by
  have key : ∀ {c n X}, Good p cal c n X → ∀ {ast}, chkE p c (.slc a b d) ast = true → PE X ast (tE p cal X.K (.slc a b d)) ∧ ∀ whole, isTrue ast X.env whole = (do let v ← whole; standAt ast.pos; holding [v] (truthy v)) := by
    intro c n X g ast h
    simp only [chkE] at h
    split at h
    · rename_i l x y p2 pos
      simp only [Bool.and_eq_true] at h
      obtain ⟨⟨h1, h2⟩, h3⟩ := h
      obtain ⟨r, hr, ok⟩ := slc_ok (X := X)
      have h2 : chkO p c b x = true := by unfold chkO; exact h2
      have h3 : chkO p c d y = true := by unfold chkO; exact h3
      refine ⟨(pe_slice hr (ha.pe g h1) (hb.po g h2) (hd.po g h3)).imp fun σ H Q ⟨G, fp, ρ, w, ρ', hp, ev, k⟩ => ?_, fun _ => rfl⟩
      simp only [evE] at ev
      split at ev
      · cases ev
      · rename_i x ρ1 ea
        split at ev
        · cases ev
        · rename_i lo ρ2 eb
          split at ev
          · cases ev
          · rename_i hi ρ3 ed
            split at ev
            · cases ev
            · rename_i hc
              split at ev
              · rename_i l1 l2 b1 b2
                obtain ⟨z, e1, e2⟩ := Option.map_eq_some_iff.mp ev
                cases e2
                have eb' : evB p.gs cal b ρ1 = some (l1, ρ2) := by unfold evB; rw [eb]; simp only [b1]
                have ed' : evB p.gs cal d ρ2 = some (l2, ρ') := by unfold evB; rw [ed]; simp only [b2]
                refine ⟨G, fp, ρ, x, ρ1, hp, ea, fun u G1 H1 f1 fe P1 r1 => ⟨G1, fe, ρ1, l1, ρ2, P1.pre, eb', fun G2 H2 fe2 P2 => ⟨G2, fe2, ρ2, l2, _, P2.pre, ed', fun G3 H3 fe3 P3 => ?_⟩⟩⟩
                have P23 := P2.trans (f1 := []) (fun x z => nomatch z) P3
                have PP := P1.trans r1.ne P23
                have r3 := r1.then P1.dj P23 (by simpa using hc)
                have e0 : f1 ++ ([] ++ []) = f1 := by simp
                rw [e0] at PP
                exact ok G3 H3 x u l1 l2 f1 _ _ P3.ev.h r3 PP.ndr e1 (fin_q PP r3.ne fun v G' H' fr fe P r => k v G' H' fr fe (P.imp fun z => by
                  simp only [isP, Bool.and_eq_true] at z ⊢
                  exact ⟨z.1.1, z.1.2, z.2⟩) r)
              · cases ev
    · cases h
  exact .plain ⟨fun _ _ => rfl, fun _ _ _ => rfl, rfl, fun _ => rfl, fun d => by cases d <;> rfl⟩ (fun g _ h => (key g h).1) fun g _ h => pt_of (key g h).1 (key g h).2

/-! ### calls -/
theorem snd_bi (f : Bi) (hs : Snd p cal es) : Snd p cal (.bi f es) := by
  have key : ∀ {c n X}, Good p cal c n X → ∀ {ast}, chkE p c (.bi f es) ast = true → PE X ast (tE p cal X.K (.bi f es)) ∧ ∀ whole, isTrue ast X.env whole = (do let v ← whole; standAt ast.pos; holding [v] (truthy v)) := by
    intro c n X g ast h
    simp only [chkE] at h
    split at h
    · simp only [Bool.and_eq_true, decide_eq_true_eq] at h
      obtain ⟨⟨rfl, h1⟩, h2⟩ := h
      obtain ⟨r, hr, ok⟩ := bi_ok (X := X) (by have := g.hu; omega) g.gd g.calm g.nb f
      obtain ⟨q1, q2⟩ := hs.pa g h2
      refine ⟨(hr _ _ _ _ _ (g.glo h1).1 q1 q2).imp fun σ H Q ⟨G, fp, ρ, d, ρ', hp, ev, k⟩ => ?_, fun _ => rfl⟩
      simp only [evE] at ev
      split at ev
      · rename_i ds ρ1 ea
        obtain ⟨z, e1, e2⟩ := Option.map_eq_some_iff.mp ev
        cases e2
        exact ⟨G, fp, ρ, ds, _, hp, ea, fun vs G1 H1 fr fe P r => ok G1 H1 ds vs fr _ _ P.ev.h r P.ndr e1 (fin_q P r.ne k)⟩
      · cases ev
    · cases h
  exact .plain ⟨fun _ _ => rfl, fun _ _ _ => rfl, rfl, fun _ => rfl, fun d => by cases d <;> rfl⟩ (fun g _ h => (key g h).1) fun g _ h => pt_of (key g h).1 (key g h).2
theorem snd_isi (n : String) (ha : Snd p cal a) : Snd p cal (.isi a n) := by
  have key : ∀ {c k X}, Good p cal c k X → ∀ {ast}, chkE p c (.isi a n) ast = true → PE X ast (tE p cal X.K (.isi a n)) ∧ ∀ whole, isTrue ast X.env whole = (do let v ← whole; standAt ast.pos; holding [v] (truthy v)) := by
    intro c k X g ast h
    simp only [chkE] at h
    split at h
    · rename_i x0 q0 l y0 q1 q2
      simp only [Bool.and_eq_true, decide_eq_true_eq] at h
      obtain ⟨⟨⟨⟨rfl, h1⟩, rfl⟩, h2⟩, h3⟩ := h
      by_cases hn : n ∈ ["int", "bool", "str", "tuple", "list"]
      · have hl : isStar l = false := by
          cases hq : isStar l with
          | false => rfl
          | true => exfalso; cases l <;> simp [isStar] at hq; revert h3; cases a <;> simp [chkE]
        refine ⟨(isi_ok g.nb (g.glo h1).1 (g.glo h2).1 hn (ha.pe g h3) hl).imp fun σ H Q ⟨G, fp, ρ, d, ρ', hp, ev, q⟩ => ?_, fun _ => rfl⟩
        simp only [evE] at ev
        split at ev
        · rename_i x ρ1 ea
          obtain ⟨z, e1, e2⟩ := Option.map_eq_some_iff.mp ev
          cases e2
          exact ⟨G, fp, ρ, x, _, hp, ea, fun v G1 H1 fr fe P r => isi_q P.ev.h r e1 (q _ G1 H1 [] fe (P.less r.ne .nil fun x z => nomatch z) (by simp [Rep]))⟩
        · cases ev
      · refine ⟨pe_none fun ρ => ?_, fun _ => rfl⟩
        simp only [evE]
        split
        · rename_i x ρ1 ea
          cases e : isiS x n with
          | none => rfl
          | some b => exact absurd (isiS_in e) hn
        · rfl
    · cases h
  exact .plain ⟨fun _ _ => rfl, fun _ _ _ => rfl, rfl, fun _ => rfl, fun d => by cases d <;> rfl⟩ (fun g _ h => (key g h).1) fun g _ h => pt_of (key g h).1 (key g h).2
theorem snd_fc (k : Nat) (hs : Snd p cal es) : Snd p cal (.fc k es) := by
  have key : ∀ {c n X}, Good p cal c n X → ∀ {ast}, chkE p c (.fc k es) ast = true → PE X ast (tE p cal X.K (.fc k es)) ∧ ∀ whole, isTrue ast X.env whole = (do let v ← whole; standAt ast.pos; holding [v] (truthy v)) := by
    intro c n X g ast h
    simp only [chkE] at h
    split at h
    · rename_i x px ls pc
      split at h
      · rename_i f ef
        simp only [Bool.and_eq_true, decide_eq_true_eq] at h
        obtain ⟨⟨⟨rfl, h1⟩, hlen⟩, h2⟩ := h
        obtain ⟨fa, fd, ps, m1, m2, m3, m4, FR⟩ := g.fs k f ef
        obtain ⟨g1, g2⟩ := g.glo h1
        have pf := hs.pf g h2
        have st := (hs.pa g h2).2
        have main : PE X (.Call (.Name f.name px) ls [] pc) (fun σ H Q => tF p cal X.K es σ H fun vs H1 => spF X.K cal k vs H1 Q) := by
          cases ls with
          | nil =>
            refine (pe_fn0 FR g.room g.gd g1 m1 m2 m3 g2).imp fun σ H Q ⟨G, fp, ρ, ds, ρ', hp, ev, q⟩ => ?_
            have hn := chkA_nil h2
            cases es <;> simp [isNil] at hn
            simp only [evF] at ev
            cases ev
            exact q [] G H [] fp hp.post (by simp [RepF, lends])
          | cons l ls => exact pe_fn FR g.room g.gd g1 m1 m2 m3 pf st g2
        refine ⟨main.imp fun σ H Q ⟨G, fp, ρ, d, ρ', hp, ev, q⟩ => ?_, fun _ => rfl⟩
        simp only [evE] at ev
        split at ev
        · cases ev
        · rename_i ds ρ1 ea
          split at ev
          · cases ev
          · rename_i ds' ρ2 efl
            split at ev
            · cases ev
            · rename_i r fin ec
              split at ev
              · cases ev
              · rename_i ρ3 eg
                split at ev
                · cases ev
                · rename_i hb
                  cases ev
                  refine ⟨G, fp, ρ, ds, ρ1, hp, ea, fun vs G1 H1 f1 fe P r1 => ?_⟩
                  obtain ⟨fa', fe', q1, q2, q3, q4, q5⟩ := fill_ok r1 P.env efl
                  have nd' := q3.nodup_iff.mpr P.nd
                  have sub : ∀ x, x ∈ fa' ∨ x ∈ fe' ↔ x ∈ f1 ∨ x ∈ fe := fun x => by
                    have := q3.mem_iff (a := x)
                    simpa only [List.mem_append] using this
                  refine ⟨G1, fa', ds', _, fin, P.ev.h, q1, (List.nodup_append.mp nd').1, q4, ec, fun v G2 H2 fr ff E2 br rr rf n2 m2 => ?_⟩
                  obtain ⟨n3, n4, n5⟩ := List.nodup_append.mp nd'
                  have djE : ∀ x ∈ fe', x ∉ fa' := fun x hx z => n5 x z x hx rfl
                  have env2 : EnvP X.K G2 H2 ρ2 σ fe' := q2.ev E2 djE
                  have neE : ∀ x ∈ fe', H1 x ≠ none := q2.ne
                  -- nothing that came back is of the frame's
                  have djF : ∀ x ∈ fr ++ ff, x ∉ fe' := fun x hx z => by
                    rcases m2 x hx with w | w
                    · exact djE x z w
                    · exact neE x z w
                  have nfe : (ff ++ fe').Nodup := List.nodup_append.mpr ⟨(List.nodup_append.mp n2).2.1, n4, fun x hx y hy e => by
                    subst e
                    exact djF x (List.mem_append_right _ hx) hy⟩
                  obtain ⟨fe3, k1, k2, k3⟩ := give_ok r1.lend rf env2 nfe eg
                  refine q v G2 H2 fr fe3 ⟨P.ev.trans (E2.weak (f1 := f1 ++ fe) fun x hx => List.mem_append.mpr ((sub x).mp (.inl hx))) (fun x hx => P.new x hx), k1, ?_, fun x hx => ?_, fun z => ?_, fun z x hx => ?_⟩ rr
                  · refine List.nodup_append.mpr ⟨(List.nodup_append.mp n2).1, k2, fun x hx y hy e => ?_⟩
                    subst e
                    rcases List.mem_append.mp (k3 x hy) with w | w
                    · exact (List.nodup_append.mp n2).2.2 x hx x w rfl
                    · exact djF x (List.mem_append_left _ hx) w
                  · have old : ∀ y, y ∈ fa' ∨ y ∈ fe' → y ∈ fp ∨ H y = none := fun y hy => P.new y (List.mem_append.mpr ((sub y).mp hy))
                    have new2 : ∀ y, y ∈ fr ++ ff → y ∈ fp ∨ H y = none := fun y hy => by
                      rcases m2 y hy with w | w
                      · exact old y (.inl w)
                      · by_cases hf : y ∈ fp
                        · exact .inl hf
                        · refine .inr ?_
                          cases e : H y with
                          | none => rfl
                          | some o => rw [(P.ev.k y (by rw [e]; simp) hf).1, e] at w; cases w
                    rcases List.mem_append.mp hx with w | w
                    · exact new2 x (List.mem_append_left _ w)
                    · rcases List.mem_append.mp (k3 x w) with u | u
                      · exact new2 x (List.mem_append_right _ u)
                      · exact old x (.inr u)
                  · have e5 := q5 (lends_pure z)
                    subst e5
                    exact (P.pu z).trans E2 fun x hx => .inr (P.pn z x hx)
                  · have e5 := q5 (lends_pure z)
                    subst e5
                    rcases m2 x (List.mem_append_left _ hx) with w | w
                    · exact P.pn z x w
                    · cases e : H x with
                      | none => rfl
                      | some o => rw [(P.pu z).same _ _ e] at w; cases w
      · cases h
    · cases h
  exact .plain ⟨fun _ _ => rfl, fun _ _ _ => rfl, rfl, fun _ => rfl, fun d => by cases d <;> rfl⟩ (fun g _ h => (key g h).1) fun g _ h => pt_of (key g h).1 (key g h).2
end
end Pur

/-! Pur13: lists changed in place, targets. -/
namespace Pur
open PySem PySem.Spec PyProof.Rows L2
section
variable {p : Pg} {cal : Cal} {X : Cx} {a b c d es : E}

/-- a list written at its address -/
theorem ev_write {K : PySem.W.Frag} {G H : Hp} {l : Addr} {o : HO} (s : Same G H) (hG : G l = none) : Ev [l] G H G (upd H l o) := by
  refine ⟨Same.refl _, fun b u q => ?_, fun x hx hf => ?_⟩
  · have e : b ≠ l := fun z => by subst z; rw [hG] at q; cases q
    rw [upd_ne e]; exact s _ _ q
  · have e : x ≠ l := fun z => hf (by simp [z])
    exact ⟨upd_ne e, rfl⟩
/-- the own list of a slot -/
theorem own_take {K : PySem.W.Frag} {G H : Hp} {ρ : En} {σ : St} {fe : List Addr} {i : Nat} {xs : List D} (h : Pre K G H ρ σ fe) (e : ρ[i]? = some (some (.lst .own xs))) :
    ∃ l vs g f2, σ[i]? = some (some (.ref l)) ∧ H l = some (.lst vs) ∧ G l = none ∧ RepL K G H xs vs g ∧ borL xs = false ∧ EnvP K G H (ρ.set i none) σ f2 ∧ (l :: (g ++ f2)).Perm fe ∧ (l :: (g ++ f2)).Nodup ∧ i < ρ.length := by
  obtain ⟨v, f1, f2, s0, b0, r0, e2, pm, nd⟩ := tVar_q h e
  simp only [Rep] at r0
  obtain ⟨l, vs, g, rfl, h1, h2, h3, rfl⟩ := r0
  exact ⟨l, vs, g, f2, s0, h2, h3, h1, by simpa [bor] using b0, e2, pm, nd, (List.getElem?_eq_some_iff.mp e).1⟩
/-- .. with other items -/
theorem own_put {K : PySem.W.Frag} {G H : Hp} {ρ : En} {σ : St} {i : Nat} {xs' : List D} {l : Addr} {vs' : List V} {g' f2 : List Addr} (s : Same G H) (hG : G l = none) (hl : σ[i]? = some (some (.ref l))) (hi : i < ρ.length)
    (e2 : EnvP K G H (ρ.set i none) σ f2) (n2 : l ∉ f2) (r : RepL K G H xs' vs' g') (n3 : l ∉ g') (hb : borL xs' = false) :
    EnvP K G (upd H l (.lst vs')) (ρ.set i (some (.lst .own xs'))) σ (l :: (g' ++ f2)) := by
  have ev := ev_write (K := K) (o := .lst vs') s hG
  have e3 := e2.ev ev fun a q z => n2 (by simp at z; rw [← z]; exact q)
  have r3 := r.ev ev (fun a q z => n3 (by simp at z; rw [← z]; exact q)) (.inl hb)
  have := e3.back (d := .lst .own xs') (v := .ref l) (f1 := l :: g') (get_set_none hi none) hl (by simpa [bor] using hb) (by simp only [Rep]; exact ⟨l, vs', g', rfl, r3, upd_same, hG, rfl⟩)
  rw [List.set_set] at this
  exact this
theorem bm_ok {X : Cx} {i : Nat} {x m : Str} {l : Expr} {id : String} {r : V → List V → Hp → VK → Prop} {px ap cp : Pos} {te : TE} (slot : Slot "list" m id) (hty : typeOf (.builtin id) = pure (.type "method_descriptor")) (hm : MtR X id r)
    (hx : PE X (.Name x px) (tVar i)) (he : PE X l te) (h0 : isStar l = false) (hline : (ap.endLine == cp.line) = true) :
    PE X (.Call (.Attribute (.Name x px) m ap) [l] [] cp) (fun σ H Q => ∃ v, σ[i]? = some (some v) ∧ tyV X.K "list" v H ∧ te σ H fun u H1 => r v [u] H1 Q) := by
  have hs := starEach_cons (env := X.env) (es := []) h0
  refine (pe_bm PySem.F.plainAttrs_list slot hty hm hx (pa_cons he pa_nil hs) (by rfl) (by rw [hs]; rfl) hline hs (by rfl)).imp fun σ H Q h => ?_
  obtain ⟨v, h1, h2, h3⟩ := h
  exact ⟨v, h1, h2, h3⟩
theorem snd_pop (i : Nat) (ha : Snd p cal a) : Snd p cal (.pop i a) := by
  have key : ∀ {c n X}, Good p cal c n X → ∀ {ast}, chkE p c (.pop i a) ast = true → PE X ast (tE p cal X.K (.pop i a)) ∧ ∀ whole, isTrue ast X.env whole = (do let v ← whole; standAt ast.pos; holding [v] (truthy v)) := by
    intro c n X g ast h
    simp only [chkE] at h
    split at h
    · rename_i x px m ap l cp
      simp only [Bool.and_eq_true, decide_eq_true_eq] at h
      obtain ⟨⟨⟨rfl, h1⟩, h2⟩, h3⟩ := h
      obtain ⟨g1, g2, g3, g4⟩ := g.vis h1
      have hl : isStar l = false := by
        cases hq : isStar l with
        | false => rfl
        | true => exfalso; cases l <;> simp [isStar] at hq; revert h3; cases a <;> simp [chkE]
      refine ⟨(bm_ok (i := i) PySem.F.slot_list_pop PySem.F.type_list_pop mt_popAt (pe_var g1 g2 g3 g4) (ha.pe g h3) hl h2).imp fun σ H Q ⟨G, fp, ρ, w, ρ', hp, ev, q⟩ => ?_, fun _ => rfl⟩
      simp only [evE] at ev
      split at ev
      · rename_i xs0 e00
        split at ev
        · rename_i j ρ1 ea
          split at ev
          · rename_i xs e0
            split at ev
            · rename_i nn e1
              split at ev
              · rename_i hj
                split at ev
                · rename_i y e2
                  cases ev
                  obtain ⟨l0, vs0, _, _, s0, hl0, _⟩ := own_take hp e00
                  refine ⟨.ref l0, s0, .inl ⟨rfl, _, SqL.of hl0⟩, G, fp, ρ, _, ρ1, hp, ea, fun u G1 H1 fr fe P r => ?_⟩
                  simp only [Rep] at r
                  obtain ⟨rfl, rfl⟩ := r
                  obtain ⟨l, vs, gg, f2, s1, hl1, hG, rl, hb, env2, pm, nd, hi⟩ := own_take P.pre e0
                  rw [s0] at s1
                  cases s1
                  obtain ⟨v, g1', g2', ev2, ry, rrest, pm2⟩ := rl.get e2
                  obtain ⟨z1, z2, z3, z4⟩ := ixN_seq e1
                  have len : xs.length = vs.length := rl.length
                  obtain ⟨nl, nd2⟩ := List.nodup_cons.mp nd
                  have hb2 : borL (xs.eraseIdx nn) = false ∧ bor w = false := by
                    have key : ∀ (xs : List D) (n : Nat), borL xs = false → borL (xs.eraseIdx n) = false ∧ ∀ y, xs[n]? = some y → bor y = false := by
                      intro xs
                      induction xs with
                      | nil => intro n _; exact ⟨rfl, fun y e => by simp at e⟩
                      | cons x xs ih =>
                        intro n h
                        simp only [borL, Bool.or_eq_false_iff] at h
                        cases n with
                        | zero => exact ⟨h.2, fun y e => by simp at e; rw [← e]; exact h.1⟩
                        | succ n =>
                          obtain ⟨i1, i2⟩ := ih n h.2
                          exact ⟨by simp only [List.eraseIdx_cons_succ, borL, h.1, i1]; rfl, fun y e => i2 y (by simpa using e)⟩
                    exact ⟨(key xs nn hb).1, (key xs nn hb).2 w e2⟩
                  have ml : ∀ x, x ∈ g1' ∨ x ∈ g2' ↔ x ∈ gg := fun x => by
                    have := pm2.mem_iff (a := x)
                    simpa only [List.mem_append] using this
                  have n1 : l0 ∉ g1' := fun z => nl (List.mem_append_left _ ((ml _).mp (.inl z)))
                  have n2' : l0 ∉ g2' := fun z => nl (List.mem_append_left _ ((ml _).mp (.inr z)))
                  have n3 : l0 ∉ f2 := fun z => nl (List.mem_append_right _ z)
                  have env3 := own_put (vs' := vs.eraseIdx nn) P.ev.h hG s0 hi env2 n3 rrest n2' hb2.1
                  have E := ev_write (K := X.K) (o := .lst (vs.eraseIdx nn)) P.ev.h hG
                  have ry2 := ry.ev E (fun a q z => n1 (by simp at z; rw [← z]; exact q)) (.inl hb2.2)
                  obtain ⟨nd3, nd4, dj⟩ := List.nodup_append.mp nd2
                  obtain ⟨nd5, nd6, dj2⟩ := List.nodup_append.mp (pm2.nodup_iff.mpr nd3)
                  have all : ∀ x, x ∈ g1' ++ (l0 :: (g2' ++ f2)) → x ∈ fe := fun x hx => by
                    refine pm.mem_iff.mp ?_
                    rcases List.mem_append.mp hx with q | q
                    · exact List.mem_cons_of_mem _ (List.mem_append_left _ ((ml _).mp (.inl q)))
                    · rcases List.mem_cons.mp q with q | q
                      · rw [q]; exact List.mem_cons_self
                      · rcases List.mem_append.mp q with q | q
                        · exact List.mem_cons_of_mem _ (List.mem_append_left _ ((ml _).mp (.inr q)))
                        · exact List.mem_cons_of_mem _ (List.mem_append_right _ q)
                  refine ⟨l0, vs, j, nn, v, rfl, rfl, hl1, hj.1, hj.2, by rw [← len]; exact z1, ev2, q v G1 _ g1' _ ⟨P.ev.trans (E.weak fun x hx => ?_) (fun x hx => P.new x (List.mem_append_right _ hx)), env3, ?_, fun x hx => P.new x (List.mem_append_right _ (all x hx)), fun z => by simp [isP] at z, fun z => by simp [isP] at z⟩ ry2⟩
                  · have : x = l0 := by simpa using hx
                    rw [this]
                    exact pm.mem_iff.mp List.mem_cons_self
                  · refine List.nodup_append.mpr ⟨nd5, List.nodup_cons.mpr ⟨fun z => (List.mem_append.mp z).elim n2' n3, List.nodup_append.mpr ⟨nd6, nd4, fun a ha b hb => dj a ((ml _).mp (.inr ha)) b hb⟩⟩, fun a ha b hb e => ?_⟩
                    subst e
                    rcases List.mem_cons.mp hb with q | q
                    · exact n1 (q ▸ ha)
                    · rcases List.mem_append.mp q with q | q
                      · exact dj2 a ha a q rfl
                      · exact dj a ((ml _).mp (.inl ha)) a q rfl
                · cases ev
              · cases ev
            · cases ev
          · cases ev
        · cases ev
      · cases ev
    · cases h
  exact .plain ⟨fun _ _ => rfl, fun _ _ _ => rfl, rfl, fun _ => rfl, fun d => by cases d <;> rfl⟩ (fun g _ h => (key g h).1) fun g _ h => pt_of (key g h).1 (key g h).2

/-! ### targets -/
section
variable (K : PySem.W.Frag)
def tG (t : T) : TG := fun v σ H Q => ∃ G fp fr ρ d ρ', Same G H ∧ EnvP K G H ρ σ fp ∧ (fr ++ fp).Nodup ∧ Rep K G H d v fr ∧ bindT t d ρ = some ρ' ∧
  ∀ σ' fe, EnvP K G H ρ' σ' fe → fe.Nodup → (∀ a ∈ fe, a ∈ fr ++ fp) → (∀ j : Nat, j ∉ tgs t → σ'[j]? = σ[j]?) → σ'.length = σ.length → Q σ' H
def tGs (t : T) : TGs := fun vs σ H Q => ∃ G fp fr ρ ds ρ', Same G H ∧ EnvP K G H ρ σ fp ∧ (fr ++ fp).Nodup ∧ RepL K G H ds vs fr ∧ bindTs t ds ρ = some ρ' ∧
  ∀ σ' fe, EnvP K G H ρ' σ' fe → fe.Nodup → (∀ a ∈ fe, a ∈ fr ++ fp) → (∀ j : Nat, j ∉ tgs t → σ'[j]? = σ[j]?) → σ'.length = σ.length → Q σ' H
end
theorem assignEach_cons {t : T} {e : Expr} {es : List Expr} {env : Env} {c : SC} (h : chkT c t e = true) : assignEach (e :: es) env = (false, assign e env) :: assignEach es env := by
  cases e <;> first | rfl | (cases t <;> simp [chkT] at h)
theorem chkTs_len {c : SC} {env : Env} : ∀ {ts : T} {es : List Expr}, chkTs c ts es = true → (assignEach es env).length = es.length ∧ (assignEach es env).findIdx? (·.1) = none
  | .nil, [], h => ⟨rfl, rfl⟩
  | .nil, e :: es, h => by simp [chkTs] at h
  | .cons t r, [], h => by simp [chkTs] at h
  | .cons t r, e :: es, h => by
    simp only [chkTs, Bool.and_eq_true] at h
    obtain ⟨h1, h2⟩ := chkTs_len (env := env) h.2
    rw [assignEach_cons h.1]
    refine ⟨by simp [h1], ?_⟩
    simp only [List.findIdx?_cons, h2]; rfl
  | .nm _, es, h => by simp [chkTs] at h
  | .tp _, es, h => by simp [chkTs] at h
theorem chkTs_ds {c : SC} : ∀ {ts : T} {es : List Expr} {ds : List D} {ρ ρ' : En}, chkTs c ts es = true → bindTs ts ds ρ = some ρ' → ds.length = es.length
  | .nil, [], ds, ρ, ρ', h, e => by cases ds <;> simp [bindTs] at e ⊢
  | .nil, e :: es, ds, ρ, ρ', h, _ => by simp [chkTs] at h
  | .cons t r, [], ds, ρ, ρ', h, _ => by simp [chkTs] at h
  | .cons t r, e :: es, ds, ρ, ρ', h, k => by
    simp only [chkTs, Bool.and_eq_true] at h
    cases ds with
    | nil => simp [bindTs] at k
    | cons d ds =>
      simp only [bindTs, Option.bind_eq_some_iff] at k
      obtain ⟨ρ1, _, k2⟩ := k
      simp [chkTs_ds h.2 k2]
  | .nm _, es, ds, ρ, ρ', h, _ => by simp [chkTs] at h
  | .tp _, es, ds, ρ, ρ', h, _ => by simp [chkTs] at h
mutual
theorem snd_T {c : SC} {n : Nat} {X : Cx} (g : Good p cal c n X) : ∀ {t : T} {e : Expr}, chkT c t e = true → PG X e (tG X.K t)
  | .nm i, e, h => by
    simp only [chkT] at h
    split at h
    · obtain ⟨g1, g2, g3⟩ := g.loc h
      refine (pg_name g.nodup g1 g2 g3).imp fun v σ H Q ⟨G, fp, fr, ρ, d, ρ', s, e, nd, r, b, q⟩ => ?_
      simp only [bindT] at b
      split at b
      · rename_i hb
        cases b
        obtain ⟨f0, f2, k1, k2⟩ := e.over hb.1 hb.2 r
        obtain ⟨n1, n2, n3⟩ := List.nodup_append.mp nd
        obtain ⟨n4, n5, n6⟩ := List.nodup_append.mp (k2.nodup_iff.mpr n2)
        have m2 : ∀ x ∈ f2, x ∈ fp := fun x hx => k2.mem_iff.mp (List.mem_append_right _ hx)
        refine q _ _ k1 (List.nodup_append.mpr ⟨n1, n5, fun x hx y hy => n3 x hx y (m2 y hy)⟩) (fun x hx => ?_) (fun j hj => ?_) (by simp)
        · rcases List.mem_append.mp hx with z | z
          · exact List.mem_append_left _ z
          · exact List.mem_append_right _ (m2 x z)
        · rw [List.getElem?_set_ne]
          intro z
          exact hj (by simp [tgs, z])
      · cases b
    · cases h
  | .tp ts, e, h => by
    simp only [chkT] at h
    split at h
    · rename_i es k pos
      obtain ⟨l1, l2⟩ := chkTs_len (env := X.env) h
      refine (pg_tup g.calm (snd_Ts g h) l1 l2).imp fun v σ H Q ⟨G, fp, fr, ρ, d, ρ', s, e, nd, r, b, q⟩ => ?_
      cases d <;> simp only [bindT, reduceCtorEq] at b
      rename_i ds
      simp only [Rep] at r
      obtain ⟨a, vs, rfl, r1, r2⟩ := r
      exact ⟨a, vs, rfl, isTup s r1, by rw [← r2.length]; exact chkTs_ds h b, G, fp, fr, ρ, ds, ρ', s, e, nd, r2, b, q⟩
    · cases h
  | .nil, e, h => by simp [chkT] at h
  | .cons _ _, e, h => by simp [chkT] at h
theorem snd_Ts {c : SC} {n : Nat} {X : Cx} (g : Good p cal c n X) : ∀ {t : T} {es : List Expr}, chkTs c t es = true → PGs X es (tGs X.K t)
  | .nil, [], h => pgs_nil.imp fun vs σ H Q ⟨G, fp, fr, ρ, ds, ρ', s, e, nd, r, b, q⟩ => by
    cases ds <;> simp only [bindTs, Option.some.injEq, reduceCtorEq] at b
    subst b
    simp only [RepL] at r
    obtain ⟨rfl, rfl⟩ := r
    exact ⟨rfl, q σ fp e (by simpa using nd) (fun x hx => by simpa using hx) (fun j _ => rfl) rfl⟩
  | .nil, e :: es, h => by simp [chkTs] at h
  | .cons t r, [], h => by simp [chkTs] at h
  | .cons t rs, e :: es, h => by
    simp only [chkTs, Bool.and_eq_true] at h
    refine (pgs_cons (snd_T g h.1) (snd_Ts g h.2) (by rw [assignEach_cons h.1]; rfl)).imp fun vs σ H Q ⟨G, fp, fr, ρ, ds, ρ', s, e, nd, r, b, q⟩ => ?_
    cases ds with
    | nil => simp [bindTs] at b
    | cons d ds =>
      simp only [bindTs, Option.bind_eq_some_iff] at b
      obtain ⟨ρ1, b1, b2⟩ := b
      simp only [RepL] at r
      obtain ⟨v, vr, f1, f2, rfl, r1, r2, rfl⟩ := r
      have nd' : (f1 ++ (f2 ++ fp)).Nodup := by rw [← List.append_assoc]; exact nd
      obtain ⟨n1, n2, n3⟩ := List.nodup_append.mp nd'
      obtain ⟨n4, n5, n6⟩ := List.nodup_append.mp n2
      refine ⟨v, vr, rfl, G, fp, f1, ρ, d, ρ1, s, e, List.nodup_append.mpr ⟨n1, n5, fun x hx y hy => n3 x hx y (List.mem_append_right _ hy)⟩, r1, b1, fun σ1 fe1 k1 k2 k3 k4 k5 => ?_⟩
      refine ⟨G, fe1, f2, ρ1, ds, ρ', s, k1, List.nodup_append.mpr ⟨n4, k2, fun x hx y hy e => ?_⟩, r2, b2, fun σ2 fe2 m1 m2 m3 m4 m5 => q σ2 fe2 m1 m2 (fun x hx => ?_) (fun j hj => ?_) (m5.trans k5)⟩
      · subst e
        rcases List.mem_append.mp (k3 x hy) with z | z
        · exact n3 x z x (List.mem_append_left _ hx) rfl
        · exact n6 x hx x z rfl
      · rcases List.mem_append.mp (m3 x hx) with z | z
        · exact List.mem_append_left _ (List.mem_append_right _ z)
        · rcases List.mem_append.mp (k3 x z) with w | w
          · exact List.mem_append_left _ (List.mem_append_left _ w)
          · exact List.mem_append_right _ w
      · simp only [tgs, List.mem_append, not_or] at hj
        exact (m4 j hj.2).trans (k4 j hj.1)
  | .nm _, es, h => by simp [chkTs] at h
  | .tp _, es, h => by simp [chkTs] at h
end
end
end Pur

/-! Pur14: comprehensions. -/
namespace Pur
open PySem PySem.Spec PyProof.Rows L2

/-! ### the frame of a loop that makes a list -/
def del (H : Hp) (l : Addr) : Hp := fun a => if a = l then none else H a
theorem del_ne {H : Hp} {l a : Addr} (h : a ≠ l) : del H l a = H a := if_neg h
theorem del_same {H : Hp} {l : Addr} : del H l l = none := if_pos rfl
theorem del_upd {H : Hp} {l : Addr} {o : HO} : del (upd H l o) l = del H l := by
  funext a
  by_cases e : a = l
  · subst e; rw [del_same, del_same]
  · rw [del_ne e, del_ne e, upd_ne e]
theorem del_new {H : Hp} {l : Addr} {o : HO} (h : H l = none) : del (upd H l o) l = H := by
  funext a
  by_cases e : a = l
  · subst e; rw [del_same, h]
  · rw [del_ne e, upd_ne e]
section
variable {K : PySem.W.Frag} {q : Bool} {fp fr fe f2 fe2 : List Addr} {G H G1 H1 G2 H2 : Hp} {ρ ρ1 ρ2 : En} {σ σ1 σ2 : St} {l : Addr} {d : D} {v : V}
theorem Ev.del (e : Ev fe G H G1 H1) (h : G1 l = none) : Ev fe G (Pur.del H l) G1 (Pur.del H1 l) := by
  refine ⟨e.g, fun b o z => ?_, fun a ha hf => ?_⟩
  · have n : b ≠ l := fun w => by subst w; rw [h] at z; cases z
    rw [del_ne n]; exact e.h b o z
  · have n : a ≠ l := fun w => by subst w; exact ha del_same
    rw [del_ne n] at ha ⊢
    rw [del_ne n]
    exact e.k a ha hf
theorem Rep.undel (r : Rep K G (Pur.del H l) d v fr) : Rep K G H d v fr := by
  refine Rep.kp ⟨Same.refl _, fun a h => ?_, fun _ b o z => ?_⟩ r
  · have n : a ≠ l := fun w => by subst w; exact r.ne a h del_same
    exact ⟨(del_ne n).symm, rfl⟩
  · have n : b ≠ l := fun w => by subst w; rw [del_same] at z; cases z
    rw [del_ne n] at z; exact z
theorem Rep.del_out (r : Rep K G (Pur.del H l) d v fr) : l ∉ fr := fun h => r.ne l h del_same
theorem Rep.thenDel (r : Rep K G1 (Pur.del H1 l) d v fr) (dj : ∀ a ∈ fr, a ∉ fe) (P : Post K q fe G1 H1 G2 H2 f2 ρ2 σ fe2) (hb : (bor d && !q) = false) (hl : G2 l = none) : Rep K G2 (Pur.del H2 l) d v fr := by
  by_cases hx : bor d = true
  · have hq : q = true := by simpa [hx] using hb
    exact r.ev ((P.pu hq).del hl) (fun a _ z => nomatch z) (.inr rfl)
  · exact r.ev (P.ev.del hl) dj (.inl (by simpa using hx))
theorem Post.env' (P : Post K q fp G H G1 H1 fr ρ σ fe) (e : EnvP K G1 H1 ρ1 σ1 fe2) (n : fe2.Nodup) (h : ∀ a ∈ fe2, a ∈ fe) : Post K q fp G H G1 H1 fr ρ1 σ1 fe2 := by
  obtain ⟨n1, n2, n3⟩ := List.nodup_append.mp P.nd
  refine ⟨P.ev, e, List.nodup_append.mpr ⟨n1, n, fun x hx y hy => n3 x hx y (h y hy)⟩, fun x hx => ?_, P.pu, P.pn⟩
  rcases List.mem_append.mp hx with z | z
  · exact P.new x (List.mem_append_left _ z)
  · exact P.new x (List.mem_append_right _ (h x z))
theorem Post.more {o : HO} (P : Post K q fp G H G1 H1 fr ρ σ fe) (t : ∀ x ∈ fr, H1 x ≠ none) (hl : H1 l = none) : Post K q fp G H G1 (upd H1 l o) (l :: fr) ρ σ fe := by
  have E := ev_own (o := o) P.ev.h hl
  have hn : ∀ x, H x ≠ none → x ∉ fp → H1 x ≠ none := fun x h1 h2 => by rw [(P.ev.k x h1 h2).1]; exact h1
  refine ⟨P.ev.trans E (fun x h => nomatch h), P.env.ev E (fun x h z => nomatch z), ?_, fun x hx => ?_, fun z => (P.pu z).trans E (fun x h => nomatch h), fun z x hx => ?_⟩
  · exact List.nodup_cons.mpr ⟨fun z => (List.mem_append.mp z).elim (fun z => t l z hl) fun z => P.env.ne l z hl, P.nd⟩
  · rcases List.mem_cons.mp hx with z | z
    · subst z
      by_cases hf : x ∈ fp
      · exact .inl hf
      · refine .inr ?_
        cases e : H x with
        | none => rfl
        | some u => exact absurd hl (hn x (by rw [e]; simp) hf)
    · exact P.new x z
  · rcases List.mem_cons.mp hx with w | w
    · subst w
      cases e : H x with
      | none => rfl
      | some u => rw [(P.pu z).same _ _ e] at hl; cases hl
    · exact P.pn z x w
theorem Post.wr {o : HO} (P : Post K q fp G H G1 H1 (l :: fr) ρ σ fe) (hl : G1 l = none) : Post K q fp G H G1 (upd H1 l o) (l :: fr) ρ σ fe := by
  have E := ev_write (K := K) (o := o) P.ev.h hl
  have nl : l ∉ fe := P.dj l List.mem_cons_self
  refine ⟨⟨P.ev.g, E.h, fun a ha hf => ?_⟩, P.env.ev E (fun x h z => nl (by simp at z; rw [← z]; exact h)), P.nd, P.new, fun z => ⟨(P.pu z).g, E.h, fun a ha _ => ?_⟩, P.pn⟩
  · have n : a ≠ l := fun w => by
      subst w
      rcases P.new a (List.mem_append_left _ List.mem_cons_self) with y | y
      · exact hf y
      · exact ha y
    rw [upd_ne n]
    exact P.ev.k a ha hf
  · have n : a ≠ l := fun w => by
      subst w
      exact ha (P.pn z a List.mem_cons_self)
    rw [upd_ne n]
    exact (P.pu z).k a ha (fun w => nomatch w)
end

/-! ### slots wiped, restored -/
theorem wipe_get (σ : St) : ∀ (vs : List Nat) (j : Nat), (wipe σ vs)[j]? = if j ∈ vs ∧ j < σ.length then some none else σ[j]?
  | [], j => by simp [wipe]
  | v :: vs, j => by
    unfold wipe
    by_cases e : v = j
    · subst e
      by_cases h : v < σ.length
      · rw [List.getElem?_set_self (by rw [wipe_length]; exact h), if_pos ⟨List.mem_cons_self, h⟩]
      · rw [List.getElem?_eq_none (by rw [List.length_set, wipe_length]; omega), if_neg (fun z => h z.2), List.getElem?_eq_none (by omega)]
    · rw [List.getElem?_set_ne e, wipe_get σ vs j]
      by_cases h : j ∈ vs ∧ j < σ.length
      · rw [if_pos h, if_pos ⟨List.mem_cons_of_mem _ h.1, h.2⟩]
      · rw [if_neg h, if_neg fun z => h ⟨(List.mem_cons.mp z.1).elim (fun w => absurd w.symm e) id, z.2⟩]
theorem wipe_eq {σ σ2 : St} {vs : List Nat} (len : σ2.length = (wipe σ vs).length) (ag : ∀ j : Nat, j ∉ vs → σ2[j]? = (wipe σ vs)[j]?) : wipe σ2 vs = wipe σ vs := by
  apply List.ext_getElem?
  intro j
  rw [wipe_get σ2]
  rw [wipe_length] at len
  by_cases h : j ∈ vs
  · by_cases hl : j < σ.length
    · rw [if_pos ⟨h, by omega⟩, wipe_get, if_pos ⟨h, hl⟩]
    · rw [if_neg (fun z => hl (by omega)), List.getElem?_eq_none (by omega), wipe_get, if_neg (fun z => hl z.2), List.getElem?_eq_none (by omega)]
  · rw [if_neg (fun z => h z.1)]
    exact ag j h
section
variable {K : PySem.W.Frag} {G H G1 H1 G2 H2 : Hp} {ρ ρ1 ρ2 : En} {σ : St} {fe fe2 : List Addr}
/-- slots of which nothing is known may hold anything -/
theorem EnvR.unset : ∀ {ρ : En} {σ σ' : St} {fe : List Addr}, EnvR K G H ρ σ fe → σ'.length = σ.length → (∀ j : Nat, ρ[j]? = some none ∨ σ'[j]? = σ[j]?) → EnvR K G H ρ σ' fe
  | [], σ, σ', fe, h, len, ag => by
    simp only [EnvR] at h ⊢
    refine ⟨?_, h.2⟩
    rw [h.1] at len
    exact List.length_eq_zero_iff.mp (by simpa using len)
  | none :: ρ, σ, σ', fe, h, len, ag => by
    simp only [EnvR] at h ⊢
    obtain ⟨x, r, rfl, h⟩ := h
    cases σ' with
    | nil => simp at len
    | cons y r' => exact ⟨y, r', rfl, EnvR.unset h (by simpa using len) fun j => by have := ag (j + 1); simpa using this⟩
  | some d :: ρ, σ, σ', fe, h, len, ag => by
    simp only [EnvR] at h ⊢
    obtain ⟨v, r, f1, f2, rfl, b, h1, h2, rfl⟩ := h
    cases σ' with
    | nil => simp at len
    | cons y r' =>
      have e0 : y = some v := by
        have := ag 0
        simpa using this
      subst e0
      exact ⟨v, r', f1, f2, rfl, b, h1, EnvR.unset h2 (by simpa using len) (fun j => by have := ag (j + 1); simpa using this), rfl⟩
theorem EnvP.unset {σ' : St} (h : EnvP K G H ρ σ fe) (len : σ'.length = σ.length) (ag : ∀ j : Nat, ρ[j]? = some none ∨ σ'[j]? = σ[j]?) : EnvP K G H ρ σ' fe := let ⟨f, h, p⟩ := h; ⟨f, h.unset len ag, p⟩
theorem restore_length (ρ1 ρ : En) : ∀ vs : List Nat, (restore ρ1 vs ρ).length = ρ.length
  | [] => rfl
  | v :: vs => by
    unfold restore
    split
    · split
      · rw [List.length_set, restore_length ρ1 ρ vs]
      · exact restore_length ρ1 ρ vs
    · exact restore_length ρ1 ρ vs
theorem restore_ok (e1 : EnvP K G1 H1 ρ1 σ fe) (s : Same G1 G2) (e2 : EnvP K G2 H2 ρ2 σ fe2) : ∀ vs : List Nat, ∃ f1 f2, EnvP K G2 H2 (restore ρ1 vs ρ2) σ f2 ∧ (f1 ++ f2).Perm fe2
  | [] => ⟨[], fe2, e2, .refl _⟩
  | v :: vs => by
    obtain ⟨f1, f2, h, q⟩ := restore_ok e1 s e2 vs
    unfold restore
    split
    · rename_i d ed
      split
      · rename_i hf
        obtain ⟨u, g1, g2, s1, b1, r1, _, _⟩ := e1.take ed
        have := Rep.fp_nil hf r1
        subst this
        have r2 : Rep K G2 H2 d u [] := Rep.kp ⟨s, (fun a z => nomatch z), fun z => by rw [b1] at z; cases z⟩ r1
        have hv : v < (restore ρ1 vs ρ2).length := by
          rw [restore_length, e2.length, ← e1.length]
          exact (List.getElem?_eq_some_iff.mp ed).1
        obtain ⟨g3, g4, k1, k2⟩ := h.over hv b1 r2
        rw [set_self s1] at k1
        refine ⟨f1 ++ g3, g4, by simpa using k1, ?_⟩
        rw [List.append_assoc]
        exact (List.Perm.append_left f1 k2).trans q
      · exact ⟨f1, f2, h, q⟩
    · exact ⟨f1, f2, h, q⟩
end

section
variable {p : Pg} {cal : Cal} {X : Cx}
theorem Good.blk {c : SC} {n : Nat} (g : Good p cal c n X) (s : Shared) (H : Hp) (scope : Scope) (C : Addr) (cl : List (Str × Addr)) (fp : List Addr) : Good p cal (c.blk scope) n (X.blk s H scope (compEnvC scope cl C X.env) fp) where
  N := g.N
  nd := g.nd
  sc := by
    show relS scope X.env.scope = relS scope c.sc
    rw [g.sc]
  fn := fun _ => rfl
  calm := g.calm
  room := g.room
  gd := g.gd
  nb := g.nb
  gs := g.gs
  fs := g.fs
theorem okOwn_ok {c : SC} {n : Nat} (g : Good p cal c n X) {scope : Scope} {vs : List Nat} (h : okOwn c scope vs = true) : (ownOf c vs).map (·.2) = vs ∧ BlkOk X.N X.env.scope scope (ownOf c vs) := by
  unfold okOwn at h
  simp only [Bool.and_eq_true, decide_eq_true_eq] at h
  refine ⟨h.1, ?_⟩
  rw [g.N, g.sc]
  exact blkOk_by h.2
theorem noSet {iter : Expr} (h : isSet iter = false) : ∀ x, foldedSetIterable iter X.env x = pure x := by
  intro x
  cases iter <;> first | rfl | cases h

/-- the turns of a list comprehension -/
theorem lc_turns {K : PySem.W.Frag} {elt d : E} {t : T} {vs : List Nat} {σ : St} {Q : VK} {J : It} {items : List D} {kp : D} {kv : V} {fk fe fp : List Addr} {G H G1 H1 : Hp} {ρ1 ρ2 : En} {ys : List D} {pp : Bool} {f : D → En → Option (List D × En)}
    (hfx : ∀ x ρ, f x ρ = match bindT t x ρ with
      | none => none
      | some ρ2 => match evE p.gs cal d ρ2 with
        | some (.bl true, ρ3) => (match evE p.gs cal elt ρ3 with
          | some (y, ρ4) => if bor y then none else some ([y], wipeD ρ4 vs)
          | none => none)
        | some (.bl false, ρ3) => some ([], wipeD ρ3 vs)
        | _ => none)
    (P1 : Post K pp fp G H G1 H1 fk ρ1 σ fe) (rk : Rep K G1 H1 kp kv fk) (wk : Wk K J items kp kv fk) (hbk : (bor kp && !(isP elt && isP d)) = false) (hlen : items.length ≤ sizeLine) (htg : ∀ j ∈ tgs t, j ∈ vs)
    (hpp : pp = true → isP elt = true ∧ isP d = true) (hl : lcL f items (wipeD ρ1 vs) = some (ys, ρ2))
    (k : ∀ v G' H' fr fe, Post K pp fp G H G' H' fr (restore ρ1 vs ρ2) σ fe → Rep K G' H' (.lst .own ys) v fr → Q v H') (D0 : Addr) (hD : H1 D0 = none) :
    ∃ W : Nat → Nat → Hp → Prop, (∃ m, W 0 m (upd H1 D0 (.lst []))) ∧ ∀ i m H, W i m H →
      (J.stop i H ∧ Q (.ref D0) H) ∨ (J.go i H ∧ ∃ Nx : Hp → Prop, (∀ H', Nx H' → ∃ m', m' < m ∧ W (i + 1) m' H') ∧ ∀ x H', J.yld i H x H' → tG K t x (wipe σ vs) H' fun σ2 H2 => wipe σ2 vs = wipe σ vs ∧ tT p cal K d σ2 H2 fun b H3 =>
        if b = true then tE p cal K elt σ2 H3 fun y H4 => ∃ acc, H4 D0 = some (.lst acc) ∧ acc.length < sizeLine ∧ Nx (upd H4 D0 (.lst (acc ++ [y]))) else Nx H3) := by
  have hb1 : (bor kp && !isP d) = false := by
    cases hx : bor kp <;> simp [hx] at hbk ⊢
    exact hbk.2
  have hb2 : (bor kp && !isP elt) = false := by
    cases hx : bor kp <;> simp [hx] at hbk ⊢
    exact hbk.1
  -- the state at the i-th turn
  let S : Nat → Hp → Prop := fun i H2 => ∃ G2 ρx us facc fe2 ys1 zs, Post K pp fp G H G2 H2 (D0 :: (facc ++ fk)) (wipeD ρx vs) (wipe σ vs) fe2 ∧ H2 D0 = some (.lst us) ∧ G2 D0 = none ∧ RepL K G2 H2 ys1 us facc ∧ borL ys1 = false ∧
    Rep K G2 (del H2 D0) kp kv fk ∧ Same G1 G2 ∧ lcL f (items.drop i) (wipeD ρx vs) = some (zs, ρ2) ∧ ys1 ++ zs = ys ∧ ys1.length ≤ i ∧ (wipeD ρx vs).length = ρ1.length
  refine ⟨fun i m H2 => m = items.length - i ∧ i ≤ items.length ∧ S i H2, ⟨items.length, by simp, Nat.zero_le _, ?_⟩, ?_⟩
  · obtain ⟨g1, g2, e1, e2⟩ := P1.env.wipeD vs
    have e3 := EnvP.wipeS e1 vs fun v h => h
    have nfe : fe.Nodup := (List.nodup_append.mp P1.nd).2.1
    have P2 := P1.env' e3 (List.nodup_append.mp (e2.nodup_iff.mpr nfe)).2.1 fun a h => e2.mem_iff.mp (List.mem_append_right _ h)
    have P3 := P2.more (o := .lst []) rk.ne hD
    refine ⟨G1, ρ1, [], [], g2, [], ys, P3, upd_same, Same.none P1.ev.h hD, by simp [RepL], rfl, ?_, Same.refl _, hl, rfl, Nat.le_refl _, wipeD_length _ _⟩
    rw [del_new hD]; exact rk
  · rintro i m H2 ⟨rfl, hi, G2, ρx, us, facc, fe2, ys1, zs, P, hus, hG, rys, bys, rkp, s12, hlc, hys, hle, hlρ⟩
    have kne : ∀ x ∈ D0 :: (facc ++ fk), H2 x ≠ none := fun x hx => by
      rcases List.mem_cons.mp hx with z | z
      · rw [z, hus]; simp
      · rcases List.mem_append.mp z with z | z
        · exact rys.ne x z
        · exact rkp.undel.ne x z
    by_cases hlt : i < items.length
    · refine .inr ⟨wk.go i G2 H2 hlt P.ev.h rkp.undel, S (i + 1), fun H' hS => ⟨items.length - (i + 1), by omega, rfl, hlt, hS⟩, fun x H3 hy => ?_⟩
      obtain ⟨G3, dx, E3, hdx, rdx⟩ := wk.yld i G2 H2 x H3 hlt P.ev.h rkp.undel hy
      have P3 := P.step kne E3 P.ndr fun x h => .inl h
      have hus3 : H3 D0 = some (.lst us) := (E3.same) _ _ hus
      have hG3 : G3 D0 = none := by rw [(E3.k D0 (by rw [hus]; simp) (fun z => nomatch z)).2]; exact hG
      have rys3 := rys.ev E3 (fun a _ z => nomatch z) (.inr rfl)
      have rkp3 := rkp.ev (E3.del hG3) (fun a _ z => nomatch z) (.inr rfl)
      have hdrop : items.drop i = dx :: items.drop (i + 1) := by
        rw [List.drop_eq_getElem_cons hlt]
        congr 1
        have := List.getElem?_eq_getElem hlt
        rw [hdx] at this
        exact (Option.some.inj this).symm
      rw [hdrop] at hlc
      simp only [lcL] at hlc
      rw [hfx] at hlc
      split at hlc
      · cases hlc
      · rename_i o ρ5 ho
        split at hlc
        · cases hlc
        · rename_i zs' ρ6 hl2
          cases hlc
          split at ho
          · cases ho
          · rename_i ρ3 hb3
            refine ⟨G3, fe2, [], wipeD ρx vs, dx, ρ3, P3.ev.h, P3.env, by simpa using P3.pre.n, rdx, hb3, fun σ3 fe3 e3 n3 m3 ag len => ?_⟩
            have hw : wipe σ3 vs = wipe σ vs := wipe_eq len fun j hj => ag j fun z => hj (htg j z)
            refine ⟨hw, ?_⟩
            have P3' := P3.env' e3 n3 fun a h => by simpa using m3 a h
            have k3 : ∀ x ∈ D0 :: (facc ++ fk), H3 x ≠ none := fun x hx => by
              rw [(E3.k x (kne x hx) (fun z => nomatch z)).1]; exact kne x hx
            -- what the test leaves
            have test : ∀ {b : Bool} {ρ4 : En} {G4 H4 : Hp} {fe4 : List Addr}, Post K (isP d) fe3 G3 H3 G4 H4 [] ρ4 σ3 fe4 →
                Post K pp fp G H G4 H4 (D0 :: (facc ++ fk)) ρ4 σ3 fe4 ∧ H4 D0 = some (.lst us) ∧ G4 D0 = none ∧ RepL K G4 H4 ys1 us facc ∧ Rep K G4 (del H4 D0) kp kv fk ∧ Same G1 G4 := fun {b ρ4 G4 H4 fe4} P4 => by
              have PP := P3'.trans k3 P4
              rw [List.append_nil] at PP
              have nD : D0 ∉ fe3 := P3'.dj D0 List.mem_cons_self
              obtain ⟨w1, w2⟩ := P4.ev.k D0 (k3 D0 List.mem_cons_self) nD
              have hG4 : G4 D0 = none := w2.trans hG3
              exact ⟨PP.imp fun z => by rw [z, (hpp z).2]; rfl, w1.trans hus3, hG4, rys3.ev P4.ev (fun a h => P3'.dj a (List.mem_cons_of_mem _ (List.mem_append_left _ h))) (.inl bys),
                rkp3.thenDel (fun a h => P3'.dj a (List.mem_cons_of_mem _ (List.mem_append_right _ h))) P4 hb1 hG4, s12.trans (E3.g.trans P4.ev.g)⟩
            split at ho
            · rename_i ρ4 hc
              split at ho
              · rename_i y ρ7 he
                split at ho
                · cases ho
                · rename_i hby
                  cases ho
                  refine ⟨G3, fe3, ρ3, true, ρ4, P3'.pre, hc, fun G4 H4 fe4 P4 => iteT ⟨G4, fe4, ρ4, y, ρ7, P4.pre, he, fun v G5 H5 fr5 fe5 P5 rv => ?_⟩⟩
                  obtain ⟨PP, hus4, hG4, rys4, rkp4, s14⟩ := test (b := true) P4
                  have k4 : ∀ x ∈ D0 :: (facc ++ fk), H4 x ≠ none := fun x hx => by
                    rcases List.mem_cons.mp hx with z | z
                    · rw [z, hus4]; simp
                    · rcases List.mem_append.mp z with z | z
                      · exact rys4.ne x z
                      · exact rkp4.undel.ne x z
                  have nD : D0 ∉ fe4 := PP.dj D0 List.mem_cons_self
                  obtain ⟨w1, w2⟩ := P5.ev.k D0 (k4 D0 List.mem_cons_self) nD
                  have hG5 : G5 D0 = none := w2.trans hG4
                  have hus5 : H5 D0 = some (.lst us) := w1.trans hus4
                  have rys5 := rys4.ev P5.ev (fun a h => PP.dj a (List.mem_cons_of_mem _ (List.mem_append_left _ h))) (.inl bys)
                  have rkp5 := rkp4.thenDel (fun a h => PP.dj a (List.mem_cons_of_mem _ (List.mem_append_right _ h))) P5 hb2 hG5
                  have PQ := PP.trans k4 P5
                  have ul : us.length = ys1.length := rys.length.symm
                  refine ⟨us, hus5, by omega, ?_⟩
                  have by' : bor y = false := by simpa using hby
                  -- the frame, in order
                  have k5 : ∀ x ∈ (D0 :: (facc ++ fk)) ++ fr5, H5 x ≠ none := fun x hx => by
                    rcases List.mem_append.mp hx with z | z
                    · rcases List.mem_cons.mp z with z | z
                      · rw [z, hus5]; simp
                      · rcases List.mem_append.mp z with z | z
                        · exact rys5.ne x z
                        · exact rkp5.undel.ne x z
                    · exact rv.ne x z
                  have pm : (D0 :: ((facc ++ fr5) ++ fk)).Perm ((D0 :: (facc ++ fk)) ++ fr5) := by
                    show (D0 :: ((facc ++ fr5) ++ fk)).Perm (D0 :: ((facc ++ fk) ++ fr5))
                    refine List.Perm.cons _ ?_
                    rw [List.append_assoc, List.append_assoc]
                    exact List.Perm.append_left _ List.perm_append_comm
                  have PR := (PQ.imp (q := pp) fun z => by rw [z, (hpp z).1]; rfl).less k5 (pm.nodup_iff.mpr PQ.ndr) fun x h => pm.mem_iff.mp h
                  obtain ⟨g1, g2, e1, e2⟩ := PR.env.wipeD vs
                  have e3' := EnvP.wipeS e1 vs fun v h => h
                  rw [hw] at e3'
                  have nfe : fe5.Nodup := (List.nodup_append.mp PR.nd).2.1
                  have PS := (PR.env' e3' (List.nodup_append.mp (e2.nodup_iff.mpr nfe)).2.1 fun a h => e2.mem_iff.mp (List.mem_append_right _ h)).wr (o := .lst (us ++ [v])) hG5
                  have EW := ev_write (K := K) (o := .lst (us ++ [v])) P5.ev.h hG5
                  have ndk := PR.ndr
                  obtain ⟨nD1, _⟩ := List.nodup_cons.mp ndk
                  have nDa : D0 ∉ facc := fun z => nD1 (List.mem_append_left _ (List.mem_append_left _ z))
                  have nDr : D0 ∉ fr5 := fun z => nD1 (List.mem_append_left _ (List.mem_append_right _ z))
                  refine ⟨G5, ρ7, us ++ [v], facc ++ fr5, g2, ys1 ++ [y], zs', PS, upd_same, hG5, ?_, ?_, ?_, s14.trans P5.ev.g, hl2, ?_, ?_, ?_⟩
                  · refine (rys5.ev EW (fun a h z => nDa (by simp at z; rw [← z]; exact h)) (.inl bys)).app ?_
                    simp only [RepL]
                    exact ⟨v, [], fr5, [], rfl, rv.ev EW (fun a h z => nDr (by simp at z; rw [← z]; exact h)) (.inl by'), by simp, by simp⟩
                  · have : ∀ (a b : List D), borL a = false → borL b = false → borL (a ++ b) = false := by
                      intro a b ha hb
                      induction a with
                      | nil => exact hb
                      | cons x xs ih =>
                        simp only [borL, Bool.or_eq_false_iff] at ha
                        simp only [List.cons_append, borL, ha.1, ih ha.2]; rfl
                    exact this _ _ bys (by simp [borL, by'])
                  · rw [del_upd]; exact rkp5
                  · rw [List.append_assoc]; exact hys
                  · simp; omega
                  · rw [wipeD_length]
                    have z1 := PR.env.length
                    have z2 : σ3.length = σ.length := by rw [len, wipe_length]
                    have z3 := P1.env.length
                    omega
              · cases ho
            · rename_i ρ4 hc
              cases ho
              refine ⟨G3, fe3, ρ3, false, ρ4, P3'.pre, hc, fun G4 H4 fe4 P4 => iteF ?_⟩
              obtain ⟨PP, hus4, hG4, rys4, rkp4, s14⟩ := test (b := false) P4
              obtain ⟨g1, g2, e1, e2⟩ := PP.env.wipeD vs
              have e3' := EnvP.wipeS e1 vs fun v h => h
              rw [hw] at e3'
              have nfe : fe4.Nodup := (List.nodup_append.mp PP.nd).2.1
              have PS := PP.env' e3' (List.nodup_append.mp (e2.nodup_iff.mpr nfe)).2.1 fun a h => e2.mem_iff.mp (List.mem_append_right _ h)
              refine ⟨G4, ρ4, us, facc, g2, ys1, zs', PS, hus4, hG4, rys4, bys, rkp4, s14, hl2, by simpa using hys, by omega, ?_⟩
              rw [wipeD_length]
              have z1 := PP.env.length
              have z2 : σ3.length = σ.length := by rw [len, wipe_length]
              have z3 := P1.env.length
              omega
            · cases ho
    · have e : i = items.length := by omega
      subst e
      refine .inl ⟨wk.stop G2 H2 P.ev.h rkp.undel, ?_⟩
      simp only [List.drop_length, lcL] at hlc
      cases hlc
      rw [List.append_nil] at hys
      subst hys
      have sub : ∀ x ∈ D0 :: facc, x ∈ D0 :: (facc ++ fk) := fun x h => (List.mem_cons.mp h).elim (fun z => by rw [z]; exact List.mem_cons_self) fun z => List.mem_cons_of_mem _ (List.mem_append_left _ z)
      have nd1 : (D0 :: facc).Nodup := by
        obtain ⟨a1, a2⟩ := List.nodup_cons.mp P.ndr
        exact List.nodup_cons.mpr ⟨fun z => a1 (List.mem_append_left _ z), (List.nodup_append.mp a2).1⟩
      have PL := P.less kne nd1 sub
      have lenσ : (wipeD ρx vs).length = σ.length := by rw [PL.env.length, wipe_length]
      have eσ : EnvP K G2 H2 (wipeD ρx vs) σ fe2 := PL.env.unset (wipe_length σ vs).symm fun j => by
        by_cases hj : j ∈ vs ∧ j < ρx.length
        · exact .inl (wipeD_none hj.1 hj.2)
        · refine .inr ?_
          rw [wipe_get, if_neg fun z => hj ⟨z.1, by rw [← wipeD_length ρx vs, lenσ]; exact z.2⟩]
      obtain ⟨f1, f2, r1, r2⟩ := restore_ok P1.env s12 eσ vs
      have nfe : fe2.Nodup := (List.nodup_append.mp PL.nd).2.1
      refine k _ G2 H2 (D0 :: facc) f2 (PL.env' r1 (List.nodup_append.mp (r2.nodup_iff.mpr nfe)).2.1 fun a h => r2.mem_iff.mp (List.mem_append_right _ h)) ?_
      simp only [Rep]
      exact ⟨D0, us, facc, rfl, rys, hus, hG, rfl⟩
end
end Pur

/-! Pur15: comprehensions, ranges as expressions. -/
namespace Pur
open PySem PySem.Spec PyProof.Rows L2
section
variable {p : Pg} {cal : Cal} {X : Cx} {a b c d es elt it : E}

theorem lc_read {K : PySem.W.Frag} {t : T} {vs : List Nat} {σ : St} {H : Hp} {Q : VK} (h : tE p cal K (.lc elt t it d vs) σ H Q) : tLc (tI p cal K it) (tG K t) (tT p cal K d) (tE p cal K elt) vs σ H Q := by
  obtain ⟨G, fp, ρ, w, ρ', hp, ev, k⟩ := h
  simp only [evE] at ev
  split at ev
  · cases ev
  · rename_i d0 ρ1 e1
    split at ev
    · cases ev
    · rename_i items kp e2
      split at ev
      · cases ev
      · rename_i hc
        simp only [Bool.or_eq_true, not_or, Bool.not_eq_true, Bool.not_eq_false', decide_eq_true_eq] at hc
        obtain ⟨⟨hc1, hc2⟩, hc3⟩ := hc
        split at ev
        · rename_i ys ρ2 hl
          cases ev
          have eI : evI p.gs cal it ρ = some (items, kp, ρ1) := by unfold evI; rw [e1]; simp only [e2]
          refine ⟨G, fp, ρ, items, kp, ρ1, hp, eI, fun J kv G1 H1 fk fe P1 rk wk => fun D0 hD => ?_⟩
          refine lc_turns (pp := isP elt && isP it && isP d) (fun x ρ => rfl) (P1.imp fun z => ?_) rk wk hc1 hc2 (fun j hj => ?_) (fun z => ?_) hl (fun v G' H' fr fe P r => k v G' H' fr fe P r) D0 hD
          · simp only [Bool.and_eq_true] at z
            exact z.1.2
          · have := List.all_eq_true.mp hc3 j hj
            simpa using this
          · simp only [Bool.and_eq_true] at z
            exact ⟨z.1.1, z.2⟩
        · cases ev
theorem tYes_of {K : PySem.W.Frag} {e : E} {σ : St} {H : Hp} {Q : Bool → Hp → Prop} (he : isTru e = true) (h : tT p cal K e σ H Q) : Q true H := by
  cases e <;> simp [isTru] at he
  rename_i b
  cases b <;> simp [isTru] at he
  obtain ⟨G, fp, ρ, b, ρ', hp, ev, k⟩ := h
  simp only [evE] at ev
  cases ev
  exact k G H fp hp.post
theorem pts_of {c : SC} {n : Nat} {X : Cx} (g : Good p cal c n X) (hd : Snd p cal d) {ifs : List Expr} (h : (match ifs with | [] => isTru d | [f] => chkE p c d f | _ => false) = true) : PTs X ifs (tT p cal X.K d) := by
  split at h
  · exact ⟨fun pins s σ H Q I q => pts_nil.run pins s σ H Q I (tYes_of h q)⟩
  · exact pts_one (hd.pt g h)
  · cases h
/-- a comprehension's value; and its store straight into a slot -/
theorem lc_both {c : SC} {n : Nat} {X : Cx} (g : Good p cal c n X) (he : Snd p cal elt) (hi : Snd p cal it) (hd : Snd p cal d) {t : T} {vs : List Nat} {l tg iter : Expr} {ifs : List Expr} {scope : Scope} {pos : Pos}
    (h : chkE p c (.lc elt t it d vs) (.ListComp l [⟨tg, iter, ifs, 0⟩] scope pos) = true) :
    PE X (.ListComp l [⟨tg, iter, ifs, 0⟩] scope pos) (tE p cal X.K (.lc elt t it d vs)) ∧
    ∀ {i : Nat} {y : Str} {py spos : Pos}, X.env.scope.kind = .function → X.N[i]? = some y → X.env.scope.names.lookup y = some .local → (py.line == pos.line) = true → (scope.names.any fun (n, k) => n == y && (k == .local || k == .cell)) = false →
      PS X (.Assign [.Name y py] (.ListComp l [⟨tg, iter, ifs, 0⟩] scope pos) spos) (tAsg (tE p cal X.K (.lc elt t it d vs)) (gName i)) := by
  simp only [chkE, Bool.and_eq_true, Bool.not_eq_true'] at h
  obtain ⟨⟨⟨⟨⟨h1, h2⟩, h3⟩, h4⟩, h5⟩, h6⟩ := h
  obtain ⟨o1, o2⟩ := okOwn_ok g h1
  have h2 : chkI p c it iter tg = true := h2
  have pi := hi.pi g h2
  have pg : ∀ (s : Shared) (H : Hp) (C : Addr) (cl : List (Str × Addr)) (fp : List Addr), PG (X.blk s H scope (compEnvC scope cl C X.env) fp) tg (tG X.K t) := fun s H C cl fp => snd_T (g.blk s H scope C cl fp) h4
  have pt : ∀ (s : Shared) (H : Hp) (C : Addr) (cl : List (Str × Addr)) (fp : List Addr), PTs (X.blk s H scope (compEnvC scope cl C X.env) fp) ifs (tT p cal X.K d) := fun s H C cl fp => pts_of (g.blk s H scope C cl fp) hd h6
  have pe : ∀ (s : Shared) (H : Hp) (C : Addr) (cl : List (Str × Addr)) (fp : List Addr), PE (X.blk s H scope (compEnvC scope cl C X.env) fp) l (tE p cal X.K elt) := fun s H C cl fp => he.pe (g.blk s H scope C cl fp) h5
  refine ⟨(pe_lc g.calm g.nodup pi o2 pg pt pe (noSet h3)).imp fun σ H Q q => ?_, fun kf hy hyl hl ha => ?_⟩
  · rw [o1]; exact lc_read q
  · refine (ps_setLc g.calm g.nodup hy hyl (sw_true kf hyl hl ha) pi o2 pg pt pe (noSet h3)).imp fun D σ H q => ?_
    show tLc _ _ _ _ _ σ H _
    rw [o1]; exact lc_read q
theorem snd_lc {t : T} {vs : List Nat} (he : Snd p cal elt) (hi : Snd p cal it) (hd : Snd p cal d) : Snd p cal (.lc elt t it d vs) := by
  have key : ∀ {c n X}, Good p cal c n X → ∀ {ast}, chkE p c (.lc elt t it d vs) ast = true → PE X ast (tE p cal X.K (.lc elt t it d vs)) ∧ ∀ whole, isTrue ast X.env whole = (do let v ← whole; standAt ast.pos; holding [v] (truthy v)) := by
    intro c n X g ast h
    have h' := h
    simp only [chkE] at h
    split at h
    · exact ⟨(lc_both g he hi hd h').1, fun _ => rfl⟩
    · cases h
  exact .plain ⟨fun _ _ => rfl, fun _ _ _ => rfl, rfl, fun _ => rfl, fun d => by cases d <;> rfl⟩ (fun g _ h => (key g h).1) fun g _ h => pt_of (key g h).1 (key g h).2

/-! ### ranges -/
theorem Snd.walk {e : E} (hE : ∀ c ast, chkE p c e ast = false) (hA : ∀ c ls, chkA p c e ls = false) (hN : isAbs e = false)
    (pi : ∀ {c n X}, Good p cal c n X → ∀ {iter tg}, chkJ p c e iter tg = true → PI X tg iter (tI p cal X.K e)) : Snd p cal e where
  pe := fun _ _ h => by rw [hE] at h; cases h
  pt := fun _ _ h => by rw [hE] at h; cases h
  pa := fun _ _ h => by rw [hA] at h; cases h
  pf := fun _ _ h => by rw [hA] at h; cases h
  an := fun _ _ _ _ h => by rw [hA] at h; cases h
  ant := fun _ _ _ _ h => by rw [hA] at h; cases h
  or := fun _ _ _ _ h => by rw [hA] at h; cases h
  ort := fun _ _ _ _ h => by rw [hA] at h; cases h
  po := fun g x h => by
    unfold chkO at h
    cases x with
    | none => rw [hN] at h; cases h
    | some l => simp [hE] at h
  pi := fun g iter tg h => by
    unfold chkI at h
    rw [hE, Bool.false_or] at h
    exact pi g h
theorem wk_range {K : PySem.W.Frag} (lo : Int) (n : Nat) : Wk K (Itr lo n) (rangeD lo n) .non .non [] where
  go := fun i G H hi s r => by
    show i < n
    simpa [rangeD] using hi
  stop := fun G H s r => by simp [rangeD, Itr]
  yld := fun i G H x H' hi s r y => by
    obtain ⟨rfl, rfl⟩ := y
    have hi : i < n := by simpa [rangeD] using hi
    exact ⟨G, .int (lo + (i : Nat)), .refl s, by simp [rangeD, hi], by simp [Rep]⟩
theorem snd_rng (ha : Snd p cal a) : Snd p cal (.rng a) := by
  refine .walk (fun _ _ => rfl) (fun _ _ => rfl) rfl fun {c n X} g iter tg h => ?_
  simp only [chkJ] at h
  split at h
  · simp only [Bool.and_eq_true, Bool.not_eq_true', decide_eq_true_eq] at h
    obtain ⟨⟨⟨rfl, h1⟩, h2⟩, h3⟩ := h
    have hs := starEach_cons (env := X.env) (es := []) h2
    refine (pi_range1 (g.glo h1).1 (g.nb _ (by decide +kernel)) (pa_cons (ha.pe g h3) pa_nil hs) hs).imp fun σ H R ⟨G, fp, ρ, items, kp, ρ', hp, ev, k⟩ => ?_
    simp only [evI, evE] at ev
    split at ev
    · cases ev
    · rename_i d0 ρ1 e0
      split at e0
      · rename_i j ρ2 ea
        split at e0
        · rename_i hj
          cases e0
          simp only [itOf] at ev
          cases ev
          refine ⟨G, fp, ρ, _, _, hp, ea, fun v G' H' fr fe P r => ?_⟩
          simp only [Rep] at r
          obtain ⟨rfl, rfl⟩ := r
          have z : sizeLine = 16777216 := sizeLine_eq
          refine ⟨j, rfl, by omega, by omega, k _ .non G' H' [] fe P (by simp [Rep]) (wk_range 0 j.toNat)⟩
        · cases e0
      · cases e0
  · cases h
theorem snd_rng2 (ha : Snd p cal a) (hb : Snd p cal b) : Snd p cal (.rng2 a b) := by
  refine .walk (fun _ _ => rfl) (fun _ _ => rfl) rfl fun {c n X} g iter tg h => ?_
  simp only [chkJ] at h
  split at h
  · rename_i x px l r pos
    simp only [Bool.and_eq_true, Bool.not_eq_true', decide_eq_true_eq] at h
    obtain ⟨⟨⟨⟨⟨rfl, h1⟩, h2⟩, h3⟩, h4⟩, h5⟩ := h
    have hs := starEach_cons (env := X.env) (es := [r]) h2
    have hs2 := starEach_cons (env := X.env) (es := []) h3
    refine (pi_range2 (g.glo h1).1 (g.nb _ (by decide +kernel)) (pa_cons (ha.pe g h4) (pa_cons (hb.pe g h5) pa_nil hs2) hs) (by rw [hs, hs2]; rfl) hs2).imp fun σ H R ⟨G, fp, ρ, items, kp, ρ', hp, ev, k⟩ => ?_
    simp only [evI, evE] at ev
    split at ev
    · cases ev
    · rename_i d0 ρ1 e0
      split at e0
      · rename_i i ρ2 ea
        split at e0
        · rename_i j ρ3 eb
          split at e0
          · rename_i hj
            cases e0
            simp only [itOf] at ev
            cases ev
            refine tE_two (R := fun u v H2 => ∃ i j : Int, [u, v] = [.int i, .int j] ∧ (-(2 ^ 62) ≤ i ∧ i < 2 ^ 62 ∧ -(2 ^ 62) ≤ j ∧ j < 2 ^ 62) ∧ R (Itr i (j - i).toNat) H2) hp ea eb (by simp [bor]) fun u v G' H' f1 f2 fe P r1 r2 => ?_
            simp only [Rep] at r1 r2
            obtain ⟨⟨rfl, rfl⟩, rfl, rfl⟩ := And.intro r1 r2
            have z : sizeLine = 16777216 := sizeLine_eq
            exact ⟨i, j, rfl, ⟨by omega, by omega, by omega, by omega⟩, k _ .non G' H' [] fe P (by simp [Rep]) (wk_range i (j - i).toNat)⟩
          · cases e0
        · cases e0
      · cases e0
  · cases h
end
end Pur

/-! Pur16: soundness of statements. -/
namespace Pur
open PySem PySem.Spec PyProof.Rows L2

structure GoodS (p : Pg) (cal : Cal) (c : SC) (n : Nat) (X : Cx) : Prop extends Good p cal c n X where
  kf : X.env.scope.kind = .function
  xe : X.xe = fun _ _ => False

def Ag (as : List Nat) (σ σ' : St) : Prop := ∀ j : Nat, j ∉ as → σ'[j]? = σ[j]?
theorem Ag.refl {as : List Nat} {σ : St} : Ag as σ σ := fun _ _ => rfl
theorem Ag.trans {as bs : List Nat} {σ σ1 σ2 : St} (a : Ag as σ σ1) (b : Ag bs σ1 σ2) : Ag (as ++ bs) σ σ2 := fun j h =>
  (b j fun z => h (List.mem_append_right _ z)).trans (a j fun z => h (List.mem_append_left _ z))
theorem Ag.mono {as bs : List Nat} {σ σ1 : St} (a : Ag as σ σ1) (h : ∀ j ∈ as, j ∈ bs) : Ag bs σ σ1 := fun j z => a j fun w => z (h j w)
section
variable (p : Pg) (cal : Cal) (W : Nat) (K : PySem.W.Frag)
/-- what is wanted behind, by how it ended -/
def After (D : Ends) (as : List Nat) (fp : List Addr) (G H : Hp) (σ : St) : R → Prop
  | .nx ρ' => ∀ σ' G' H' fe, Post K false fp G H G' H' [] ρ' σ' fe → Ag as σ σ' → D.nx σ' H'
  | .bk ρ' => ∀ σ' G' H' fe, Post K false fp G H G' H' [] ρ' σ' fe → Ag as σ σ' → D.bk σ' H'
  | .ct ρ' => ∀ σ' G' H' fe, Post K false fp G H G' H' [] ρ' σ' fe → Ag as σ σ' → D.ct σ' H'
  | .rt d ρ' => ∀ v σ' G' H' fr fe, Post K false fp G H G' H' fr ρ' σ' fe → bor d = false → Rep K G' H' d v fr → Ag as σ σ' → D.rt v H'
def tS (s : S) : TS := fun D σ H => ∃ G fp ρ r, Pre K G H ρ σ fp ∧ evS p.gs cal W s ρ = some r ∧ After K D (asgs s) fp G H σ r
end
structure SndS (p : Pg) (cal : Cal) (W : Nat) (s : S) : Prop where
  st : ∀ {c n X}, GoodS p cal c n X → ∀ {a}, chkS p c s a = true → PS X a (tS p cal W X.K s)
  bl : ∀ {c n X}, GoodS p cal c n X → ∀ {as}, chkB p c s as = true → PSs X as (tS p cal W X.K s)

section
variable {p : Pg} {cal : Cal} {W : Nat} {K : PySem.W.Frag} {D : Ends} {j1 j2 : List Nat} {fp fe fr : List Addr} {G H G1 H1 : Hp} {ρ ρ1 : En} {σ σ1 : St}
theorem After.next {r : R} (P : Post K false fp G H G1 H1 [] ρ1 σ1 fe) (a : Ag j1 σ σ1) (h : After K D (j1 ++ j2) fp G H σ r) : After K D j2 fe G1 H1 σ1 r := by
  cases r with
  | nx ρ' => exact fun σ' G' H' fe' P' a' => h σ' G' H' fe' (P.trans (f1 := []) (fun x z => nomatch z) P') (a.trans a')
  | bk ρ' => exact fun σ' G' H' fe' P' a' => h σ' G' H' fe' (P.trans (f1 := []) (fun x z => nomatch z) P') (a.trans a')
  | ct ρ' => exact fun σ' G' H' fe' P' a' => h σ' G' H' fe' (P.trans (f1 := []) (fun x z => nomatch z) P') (a.trans a')
  | rt d ρ' => exact fun v σ' G' H' fr fe' P' b r a' => h v σ' G' H' fr fe' (P.trans (f1 := []) (fun x z => nomatch z) P') b r (a.trans a')
theorem After.as {r : R} (h : After K D j1 fp G H σ r) (m : ∀ j ∈ j2, j ∈ j1) : After K D j2 fp G H σ r := by
  cases r with
  | nx ρ' => exact fun σ' G' H' fe' P' a' => h σ' G' H' fe' P' (a'.mono m)
  | bk ρ' => exact fun σ' G' H' fe' P' a' => h σ' G' H' fe' P' (a'.mono m)
  | ct ρ' => exact fun σ' G' H' fe' P' a' => h σ' G' H' fe' P' (a'.mono m)
  | rt d ρ' => exact fun v σ' G' H' fr fe' P' b r a' => h v σ' G' H' fr fe' P' b r (a'.mono m)
/-- the state behind a store -/
theorem Post.set {q : Bool} (P : Post K q fp G H G1 H1 fr ρ σ fe) {fe2 : List Addr} (e : EnvP K G1 H1 ρ1 σ1 fe2) (n : fe2.Nodup) (h : ∀ a ∈ fe2, a ∈ fr ++ fe) : Post K false fp G H G1 H1 [] ρ1 σ1 fe2 :=
  ⟨P.ev, e, n, fun a z => P.new a (h a z), (fun z => nomatch z), (fun z => nomatch z)⟩
theorem Post.out {q : Bool} (P : Post K q fp G H G1 H1 fr ρ σ fe) : Post K false fp G H G1 H1 [] ρ σ fe := P.set P.env P.pre.n fun a h => List.mem_append_right _ h
theorem Post.weak {q : Bool} (P : Post K q fp G H G1 H1 fr ρ σ fe) : Post K false fp G H G1 H1 fr ρ σ fe := P.imp fun z => nomatch z

variable {X : Cx} {e a b c d : E} {s r : S} {t : T}
theorem SndS.one {s : S} (hB : ∀ c l, chkB p c s l = false) (st : ∀ {c n X}, GoodS p cal c n X → ∀ {a}, chkS p c s a = true → PS X a (tS p cal W X.K s)) : SndS p cal W s :=
  ⟨st, fun _ _ h => by rw [hB] at h; cases h⟩

theorem sS_nil : SndS p cal W .nil where
  st := fun _ _ h => by simp [chkS] at h
  bl := fun g l h => by
    simp only [chkB] at h
    split at h
    · exact pss_nil.imp fun D σ H ⟨G, fp, ρ, r, hp, ev, k⟩ => by
        simp only [evS] at ev
        cases ev
        exact k σ G H fp hp.post .refl
    · cases h
theorem sS_cons (hs : SndS p cal W s) (hr : SndS p cal W r) : SndS p cal W (.cons s r) where
  st := fun _ _ h => by simp [chkS] at h
  bl := fun g l h => by
    simp only [chkB] at h
    split at h
    · simp only [Bool.and_eq_true] at h
      refine (pss_cons (hs.st g h.1) (hr.bl g h.2)).imp fun D σ H ⟨G, fp, ρ, rr, hp, ev, k⟩ => ?_
      simp only [evS] at ev
      cases e1 : evS p.gs cal W s ρ with
      | none => rw [e1] at ev; cases ev
      | some y =>
        rw [e1] at ev
        cases y with
        | nx ρ1 => exact ⟨G, fp, ρ, _, hp, e1, fun σ' G' H' fe P a' => ⟨G', fe, ρ1, rr, P.pre, ev, k.next P a'⟩⟩
        | rt d ρ1 => cases ev; exact ⟨G, fp, ρ, _, hp, e1, (k.as fun j z => List.mem_append_left _ z : After _ D (asgs s) fp G H σ (.rt d ρ1))⟩
        | bk ρ1 => cases ev; exact ⟨G, fp, ρ, _, hp, e1, (k.as fun j z => List.mem_append_left _ z : After _ D (asgs s) fp G H σ (.bk ρ1))⟩
        | ct ρ1 => cases ev; exact ⟨G, fp, ρ, _, hp, e1, (k.as fun j z => List.mem_append_left _ z : After _ D (asgs s) fp G H σ (.ct ρ1))⟩
    · cases h
theorem sS_pass : SndS p cal W .pass := .one (fun _ _ => rfl) fun g a h => by
  simp only [chkS] at h
  split at h
  · exact ps_pass.imp fun D σ H ⟨G, fp, ρ, r, hp, ev, k⟩ => by
      simp only [evS] at ev
      cases ev
      exact k σ G H fp hp.post .refl
  · cases h
theorem sS_brk : SndS p cal W .brk := .one (fun _ _ => rfl) fun g a h => by
  simp only [chkS] at h
  split at h
  · exact ps_break.imp fun D σ H ⟨G, fp, ρ, r, hp, ev, k⟩ => by
      simp only [evS] at ev
      cases ev
      exact k σ G H fp hp.post .refl
  · cases h
theorem sS_cnt : SndS p cal W .cnt := .one (fun _ _ => rfl) fun g a h => by
  simp only [chkS] at h
  split at h
  · exact ps_continue.imp fun D σ H ⟨G, fp, ρ, r, hp, ev, k⟩ => by
      simp only [evS] at ev
      cases ev
      exact k σ G H fp hp.post .refl
  · cases h
theorem sS_no : SndS p cal W .no := .one (fun _ _ => rfl) fun g a h => ps_never.imp fun D σ H ⟨G, fp, ρ, r, hp, ev, k⟩ => by
  simp only [evS] at ev
  cases ev
theorem sS_retn : SndS p cal W .retn := .one (fun _ _ => rfl) fun g a h => by
  simp only [chkS] at h
  split at h
  · exact ps_retN.imp fun D σ H ⟨G, fp, ρ, r, hp, ev, k⟩ => by
      simp only [evS] at ev
      cases ev
      exact k .non σ G H [] fp hp.post rfl (by simp [Rep]) .refl
  · cases h
theorem sS_ret (he : Snd p cal e) : SndS p cal W (.ret e) := .one (fun _ _ => rfl) fun g a h => by
  simp only [chkS] at h
  split at h
  · refine (ps_ret (he.pe g.toGood h)).imp fun D σ H ⟨G, fp, ρ, r, hp, ev, k⟩ => ?_
    simp only [evS] at ev
    split at ev
    · rename_i d ρ1 e1
      split at ev
      · cases ev
      · rename_i hb
        cases ev
        exact ⟨G, fp, ρ, d, ρ1, hp, e1, fun v G' H' fr fe P r => k v σ G' H' fr fe P.weak (by simpa using hb) r .refl⟩
    · cases ev
  · cases h
theorem sw_none {v : Expr} {line : Nat} {tg : Option Expr} {env : Env} (h : isComp v = false) : swapsWith v tg line env = pure false := by
  cases v <;> first | rfl | cases h
theorem sS_ex (he : Snd p cal e) : SndS p cal W (.ex e) := .one (fun _ _ => rfl) fun g a h => by
  simp only [chkS] at h
  split at h
  · simp only [Bool.and_eq_true, Bool.not_eq_true'] at h
    refine (ps_expr (he.pe g.toGood h.2) (sw_none h.1)).imp fun D σ H ⟨G, fp, ρ, r, hp, ev, k⟩ => ?_
    simp only [evS] at ev
    split at ev
    · rename_i d ρ1 e1
      cases ev
      exact ⟨G, fp, ρ, d, ρ1, hp, e1, fun v G' H' fr fe P r => k σ G' H' fe P.out .refl⟩
    · cases ev
  · cases h
theorem sS_ifs (hc : Snd p cal c) (ha : SndS p cal W s) (hb : SndS p cal W r) : SndS p cal W (.ifs c s r) := .one (fun _ _ => rfl) fun g a h => by
  simp only [chkS] at h
  split at h
  · simp only [Bool.and_eq_true] at h
    refine (ps_if (hc.pt g.toGood h.1.1) (ha.bl g h.1.2) (hb.bl g h.2)).imp fun D σ H ⟨G, fp, ρ, r, hp, ev, k⟩ => ?_
    simp only [evS] at ev
    split at ev
    · rename_i ρ1 e1
      refine ⟨G, fp, ρ, true, ρ1, hp, e1, fun G' H' fe P => ?_⟩
      show tS p cal W _ s D σ H'
      exact ⟨G', fe, ρ1, r, P.pre, ev, (k.next (j1 := []) P.out .refl).as fun j z => List.mem_append_left _ z⟩
    · rename_i ρ1 e1
      refine ⟨G, fp, ρ, false, ρ1, hp, e1, fun G' H' fe P => ?_⟩
      show tS p cal W _ _ D σ H'
      exact ⟨G', fe, ρ1, r, P.pre, ev, (k.next (j1 := []) P.out .refl).as fun j z => List.mem_append_right _ z⟩
    · cases ev
  · cases h

/-! ### stores -/
theorem tG_nm {i : Nat} {v : V} {Q : St → Hp → Prop} (h : tG K (.nm i) v σ H Q) : gName i v σ H Q := by
  obtain ⟨G, fp, fr, ρ, d, ρ', s, e, nd, r, b, q⟩ := h
  simp only [bindT] at b
  split at b
  · rename_i hb
    cases b
    obtain ⟨f0, f2, k1, k2⟩ := e.over hb.1 hb.2 r
    obtain ⟨n1, n2, n3⟩ := List.nodup_append.mp nd
    obtain ⟨n4, n5, n6⟩ := List.nodup_append.mp (k2.nodup_iff.mpr n2)
    have m2 : ∀ x ∈ f2, x ∈ fp := fun x hx => k2.mem_iff.mp (List.mem_append_right _ hx)
    refine q _ _ k1 (List.nodup_append.mpr ⟨n1, n5, fun x hx y hy => n3 x hx y (m2 y hy)⟩) (fun x hx => ?_) (fun j hj => ?_) (by simp)
    · rcases List.mem_append.mp hx with z | z
      · exact List.mem_append_left _ z
      · exact List.mem_append_right _ (m2 x z)
    · rw [List.getElem?_set_ne]
      intro z
      exact hj (by simp [tgs, z])
  · cases b
/-- a comprehension's store straight into a slot -/
def SetC (p : Pg) (cal : Cal) (e : E) : Prop := ∀ {c n X}, Good p cal c n X → X.env.scope.kind = .function → ∀ {l gens scope pos}, chkE p c e (.ListComp l gens scope pos) = true →
  ∀ {i : Nat} {y : Str} {py spos : Pos}, X.N[i]? = some y → X.env.scope.names.lookup y = some .local → (py.line == pos.line) = true → (scope.names.any fun (n, k) => n == y && (k == .local || k == .cell)) = false →
    PS X (.Assign [.Name y py] (.ListComp l gens scope pos) spos) (tAsg (tE p cal X.K e) (gName i))
theorem asg_read (h : tS p cal W K (.asg t e) D σ H) : tAsg (tE p cal K e) (tG K t) D σ H := by
  obtain ⟨G, fp, ρ, r, hp, ev, k⟩ := h
  simp only [evS] at ev
  split at ev
  · rename_i d ρ1 e1
    obtain ⟨ρ2, e2, e3⟩ := Option.map_eq_some_iff.mp ev
    cases e3
    exact ⟨G, fp, ρ, d, ρ1, hp, e1, fun v G' H' fr fe P r => ⟨G', fe, fr, ρ1, d, ρ2, P.ev.h, P.env, P.nd, r, e2, fun σ' fe' k1 k2 k3 k4 k5 => k σ' G' H' fe' (P.set k1 k2 k3) fun j z => k4 j z⟩⟩
  · cases ev
theorem noComp {p : Pg} {c : SC} {e : E} {v : Expr} (h : chkE p c e v = true) : isComp v = false ∨ ∃ l gens scope pos, v = .ListComp l gens scope pos := by
  cases v with
  | ListComp l gens scope pos => exact .inr ⟨l, gens, scope, pos, rfl⟩
  | SetComp => cases e <;> simp [chkE] at h
  | DictComp => cases e <;> simp [chkE] at h
  | _ => exact .inl rfl
theorem swapped_none {c : SC} {n : Nat} (g : GoodS p cal c n X) {ts vs : List Expr} {k k2 : Nat} {q q2 : Pos} (h : noSwap c ts vs = true) : swappedStores [.Tuple ts k q] (.Tuple vs k2 q2) X.env = pure none := by
  have hb : X.env.blockKind = .function := by unfold Env.blockKind; rw [g.kf]; rfl
  unfold swappedStores
  unfold noSwap at h
  simp only [Bool.or_eq_true] at h
  show (if _ then _ else _) = _
  split
  · rfl
  · rename_i h1
    split
    · rfl
    · extract_lets line names
      split
      · rfl
      · rename_i h3
        split
        · rfl
        · rename_i h4
          exfalso
          simp only [Bool.or_eq_true, not_or] at h1 h3
          rcases h with ((h | h) | h) | h
          · exact h1.1.1 h
          · exact h1.1.2 h
          · refine h3.1 ?_
            rw [← h]
            congr 2
            show List.filterMap _ ts = List.filterMap _ ts
            congr 1
            funext x
            cases x <;> simp [Env.kindOf, g.sc]
            rfl
          · exact h4 h
theorem sw_par {c : SC} {n : Nat} (g : GoodS p cal c n X) {x y : Str} {px py : Pos} {l r : Expr} {k k2 : Nat} {q q2 : Pos} (hx : X.env.scope.names.lookup x = some .local) (hy : X.env.scope.names.lookup y = some .local) (hl : (px.line == py.line) = true) (hn : (x == y) = false)
    (s1 : isStar l = false) (s2 : isStar r = false) (f1 : [l, r].all (foldedForSure 8) = false) (f2 : [l, r].all (constantsAlone 8) = false) : swappedStores [.Tuple [.Name x px, .Name y py] k q] (.Tuple [l, r] k2 q2) X.env = pure (some [x, y]) := by
  have hb : X.env.blockKind = .function := by unfold Env.blockKind; rw [g.kf]; rfl
  have hl' : py.line = px.line := by simpa using Eq.symm (by simpa using hl)
  have hk : ∀ z, X.env.kindOf z = X.env.scope.names.lookup z := fun _ => rfl
  unfold swappedStores
  show (if _ then _ else _) = _
  rw [if_neg (by simp [hb])]
  rw [if_neg (by
    simp only [List.any_cons, List.any_nil, Bool.or_false, Bool.or_eq_true, not_or]
    refine ⟨?_, ?_⟩
    · cases l <;> first | exact Bool.false_ne_true | cases s1
    · cases r <;> first | exact Bool.false_ne_true | cases s2)]
  extract_lets line names
  have hnm : names = [x, y] := by
    show List.filterMap _ [Expr.Name x px, Expr.Name y py] = _
    simp [hk, hx, hy, hl', line, Expr.pos]
  rw [hnm]
  have hyx : (y == x) = false := by
    simp only [beq_eq_false_iff_ne, ne_eq] at hn ⊢
    exact fun z => hn z.symm
  rw [if_neg (by simp [List.eraseDups, List.eraseDupsBy, List.eraseDupsBy.loop, hyx]), if_neg (by rw [f1]; exact Bool.false_ne_true), if_neg (by rw [f2]; exact Bool.false_ne_true)]
  show pure (some names) = _
  rw [hnm]
theorem sw_par3 {c : SC} {n : Nat} (g : GoodS p cal c n X) {x y z : Str} {px py pz : Pos} {l r m : Expr} {k k2 : Nat} {q q2 : Pos} (hx : X.env.scope.names.lookup x = some .local) (hy : X.env.scope.names.lookup y = some .local) (hz : X.env.scope.names.lookup z = some .local)
    (hl : (px.line == py.line) = true) (hm : (px.line == pz.line) = true) (hn : (x == y) = false) (hn2 : (x == z) = false) (hn3 : (y == z) = false)
    (s1 : isStar l = false) (s2 : isStar r = false) (s3 : isStar m = false) (f1 : [l, r, m].all (foldedForSure 8) = false) (f2 : [l, r, m].all (constantsAlone 8) = false) : swappedStores [.Tuple [.Name x px, .Name y py, .Name z pz] k q] (.Tuple [l, r, m] k2 q2) X.env = pure (some [x, y, z]) := by
  have hb : X.env.blockKind = .function := by unfold Env.blockKind; rw [g.kf]; rfl
  have hl' : py.line = px.line := by simpa using Eq.symm (by simpa using hl)
  have hm' : pz.line = px.line := by simpa using Eq.symm (by simpa using hm)
  have hk : ∀ z, X.env.kindOf z = X.env.scope.names.lookup z := fun _ => rfl
  have st : ∀ e : Expr, isStar e = false → ¬ ∃ a b, e = .Starred a b := fun e h ⟨a, b, z⟩ => by subst z; cases h
  unfold swappedStores
  show (if _ then _ else _) = _
  rw [if_neg (by simp [hb])]
  rw [if_neg (by
    simp only [List.any_cons, List.any_nil, Bool.or_false, Bool.or_eq_true, not_or]
    refine ⟨?_, ?_, ?_⟩
    · cases l <;> first | exact Bool.false_ne_true | cases s1
    · cases r <;> first | exact Bool.false_ne_true | cases s2
    · cases m <;> first | exact Bool.false_ne_true | cases s3)]
  extract_lets line names
  have hnm : names = [x, y, z] := by
    show List.filterMap _ [Expr.Name x px, Expr.Name y py, Expr.Name z pz] = _
    simp [hk, hx, hy, hz, hl', hm', line, Expr.pos]
  rw [hnm]
  have flip : ∀ {a b : Str}, (a == b) = false → (b == a) = false := fun h => by
    simp only [beq_eq_false_iff_ne, ne_eq] at h ⊢
    exact fun z => h z.symm
  rw [if_neg (by simp [List.eraseDups, List.eraseDupsBy, List.eraseDupsBy.loop, flip hn, flip hn2, flip hn3]), if_neg (by rw [f1]; exact Bool.false_ne_true), if_neg (by rw [f2]; exact Bool.false_ne_true)]
  show pure (some names) = _
  rw [hnm]
end
end Pur

/-! Pur17: stores. -/
namespace Pur
open PySem PySem.Spec PyProof.Rows L2
section
variable {p : Pg} {cal : Cal} {W : Nat} {K : PySem.W.Frag} {D : Ends} {j1 j2 : List Nat} {fp fe fr : List Addr} {G H G1 H1 : Hp} {ρ ρ1 : En} {σ σ1 : St}
variable {X : Cx} {e a b c d : E} {s r : S} {t : T}

theorem sS_asg (he : Snd p cal e) (hA : SetC p cal e) : SndS p cal W (.asg t e) := .one (fun _ _ => rfl) fun {cc n X} g st h => by
  simp only [chkS] at h
  split at h
  · rename_i tg v pos
    simp only [Bool.and_eq_true] at h
    obtain ⟨⟨h1, h2⟩, h3⟩ := h
    cases t with
    | nm i =>
      have h2' := h2
      simp only [chkT] at h2'
      split at h2'
      · rename_i y py
        obtain ⟨g1, g2, g3⟩ := g.toGood.loc h2'
        have done : PS X (.Assign [.Name y py] v pos) (tAsg (tE p cal X.K e) (gName i)) := by
          rcases noComp h1 with hv | ⟨l, gens, scope, lpos, rfl⟩
          · exact ps_set g.toGood.nodup g1 g2 (he.pe g.toGood h1) (sw_none hv) g3
          · by_cases hl : X.env.scope.names.lookup y = some .local
            · have hl' := hl
              rw [g.sc] at hl'
              simp only [hl', Bool.and_eq_true, Bool.not_eq_true'] at h3
              exact hA g.toGood g.kf h1 g1 hl h3.1 h3.2
            · refine ps_set g.toGood.nodup g1 g2 (he.pe g.toGood h1) ?_ g3
              have hk : (X.env.kindOf y == some .local) = false := by
                simp only [beq_eq_false_iff_ne, ne_eq]
                exact hl
              show (pure (X.env.blockKind == .function && X.env.kindOf y == some .local && _ && _) : Sem Bool) = _
              rw [hk]
              simp
        exact done.imp fun D σ H q => by
          obtain ⟨G, fp, ρ, d, ρ1, hp, e1, k⟩ := asg_read q
          exact ⟨G, fp, ρ, d, ρ1, hp, e1, fun v G' H' fr fe P r => tG_nm (k v G' H' fr fe P r)⟩
      · cases h2'
    | tp ts =>
      have h2' := h2
      simp only [chkT] at h2'
      split at h2'
      · rename_i es k q
        refine (ps_asg (he.pe g.toGood h1) (snd_T g.toGood h2) ?_ ?_ rfl).imp fun D σ H q => asg_read q
        · cases v <;> rfl
        · cases v <;> first | rfl | exact swapped_none g h3
      · cases h2'
    | nil => simp [chkT] at h2
    | cons _ _ => simp [chkT] at h2
  · cases h


/-- one value into a slot -/
theorem put_ok {i : Nat} {x : Pur.D} {v : V} {f1 f2 : List Addr} {ρ' : En} (e : EnvP K G H ρ σ f2) (r : Rep K G H x v f1) (nd : (f1 ++ f2).Nodup) (h : putD i x ρ = some ρ') :
    ∃ f3, EnvP K G H ρ' (σ.set i (some v)) f3 ∧ f3.Nodup ∧ ∀ a ∈ f3, a ∈ f1 ++ f2 := by
  unfold putD at h
  split at h
  · rename_i hb
    cases h
    obtain ⟨f0, g2, k1, k2⟩ := e.over hb.1 hb.2 r
    obtain ⟨n1, n2, n3⟩ := List.nodup_append.mp nd
    obtain ⟨n4, n5, n6⟩ := List.nodup_append.mp (k2.nodup_iff.mpr n2)
    have m2 : ∀ x ∈ g2, x ∈ f2 := fun x hx => k2.mem_iff.mp (List.mem_append_right _ hx)
    exact ⟨_, k1, List.nodup_append.mpr ⟨n1, n5, fun x hx y hy => n3 x hx y (m2 y hy)⟩, fun x hx => (List.mem_append.mp hx).elim (List.mem_append_left _) fun z => List.mem_append_right _ (m2 x z)⟩
  · cases h
/-- .. and the others stay apart from it -/
theorem apart {f1 f2 fe f3 : List Addr} (nd : (f1 ++ (f2 ++ fe)).Nodup) (n3 : f3.Nodup) (h : ∀ a ∈ f3, a ∈ f1 ++ fe) : (f2 ++ f3).Nodup := by
  obtain ⟨n1, n2, n4⟩ := List.nodup_append.mp nd
  obtain ⟨n5, n6, n7⟩ := List.nodup_append.mp n2
  refine List.nodup_append.mpr ⟨n5, n3, fun x hx y hy e => ?_⟩
  subst e
  rcases List.mem_append.mp (h x hy) with z | z
  · exact n4 x z x (List.mem_append_left _ hx) rfl
  · exact n7 x hx x z rfl
theorem set_out {l : St} {i j : Nat} {x : Option V} (h : j ≠ i) : (l.set i x)[j]? = l[j]? := List.getElem?_set_ne (Ne.symm h)
theorem sS_par {i j : Nat} (ha : Snd p cal a) (hb : Snd p cal b) : SndS p cal W (.par i j a b) := .one (fun _ _ => rfl) fun {cc n X} g st h => by
  simp only [chkS] at h
  split at h
  · rename_i x px y py k q l r k2 q2 pos
    simp only [Bool.and_eq_true, Bool.not_eq_true'] at h
    obtain ⟨⟨⟨⟨⟨⟨⟨⟨⟨h1, h2⟩, h3⟩, h4⟩, h5⟩, h6⟩, h7⟩, h8⟩, h9⟩, h10⟩ := h
    have pl : ∀ {i : Nat} {x : Str}, plainB cc i x = true → X.N[i]? = some x ∧ X.env.scope.names.lookup x = some .local := fun {i x} h => by
      unfold plainB at h
      simp only [Bool.and_eq_true, decide_eq_true_eq] at h
      rw [g.N, g.sc]
      refine ⟨h.1, ?_⟩
      have := h.2
      split at this <;> simp_all
    obtain ⟨a1, a2⟩ := pl h1
    obtain ⟨b1, b2⟩ := pl h2
    have hij : i ≠ j := by
      rintro rfl
      rw [a1] at b1
      cases b1
      simp at h4
    have hA := ((snd_cons ha (snd_cons hb snd_nil)).pa g.toGood (ls := [l, r]) (by simp [chkA, h5, h6, h9, h10])).1
    refine (ps_par g.calm g.toGood.nodup a1 b1 hij a2 b2 hA (sw_par g a2 b2 h3 h4 h5 h6 h7 h8)).imp fun D σ H ⟨G, fp, ρ, r, hp, ev, kk⟩ => ?_
    simp only [evS] at ev
    split at ev
    · rename_i x y ρ1 e1
      split at ev
      · cases ev
      · obtain ⟨ρ3, e2, e3⟩ := Option.map_eq_some_iff.mp ev
        cases e3
        obtain ⟨ρ2, e2, e4⟩ := Option.bind_eq_some_iff.mp e2
        refine ⟨G, fp, ρ, _, ρ1, hp, e1, fun vs G' H' fr fe P r => ?_⟩
        simp only [RepL] at r
        obtain ⟨v, _, f1, f2', rfl, r1, ⟨w, _, f2, f3, rfl, r2, ⟨rfl, rfl⟩, rfl⟩, rfl⟩ := r
        rw [List.append_nil] at P
        have nd : (f1 ++ (f2 ++ fe)).Nodup := by rw [← List.append_assoc]; exact P.nd
        obtain ⟨g1, k1, k2, k3⟩ := put_ok P.env r1 (List.nodup_append.mpr ⟨(List.nodup_append.mp nd).1, (List.nodup_append.mp (List.nodup_append.mp nd).2.1).2.1, fun x hx y hy => (List.nodup_append.mp nd).2.2 x hx y (List.mem_append_right _ hy)⟩) e2
        obtain ⟨g2, k4, k5, k6⟩ := put_ok k1 r2 (apart nd k2 k3) e4
        refine ⟨v, w, rfl, kk _ G' H' g2 (P.set k4 k5 fun x hx => ?_) fun z hz => ?_⟩
        · rw [List.append_assoc]
          rcases List.mem_append.mp (k6 x hx) with z | z
          · exact List.mem_append_right _ (List.mem_append_left _ z)
          · rcases List.mem_append.mp (k3 x z) with z | z
            · exact List.mem_append_left _ z
            · exact List.mem_append_right _ (List.mem_append_right _ z)
        · simp only [asgs, List.mem_cons, List.not_mem_nil, or_false, not_or] at hz
          rw [set_out hz.2, set_out hz.1]
    · cases ev
  · cases h
theorem sS_par3 {i j k : Nat} (ha : Snd p cal a) (hb : Snd p cal b) (hc : Snd p cal c) : SndS p cal W (.par3 i j k a b c) := .one (fun _ _ => rfl) fun {cc n X} g st h => by
  simp only [chkS] at h
  split at h
  · rename_i x px y py z pz kt q l r m k2 q2 pos
    simp only [Bool.and_eq_true, Bool.not_eq_true'] at h
    obtain ⟨⟨⟨⟨⟨⟨⟨⟨⟨⟨⟨⟨⟨⟨⟨h1, h2⟩, h3⟩, h4⟩, h5⟩, h6⟩, h7⟩, h8⟩, h9⟩, h10⟩, h11⟩, h12⟩, h13⟩, h14⟩, h15⟩, h16⟩ := h
    have pl : ∀ {i : Nat} {x : Str}, plainB cc i x = true → X.N[i]? = some x ∧ X.env.scope.names.lookup x = some .local := fun {i x} h => by
      unfold plainB at h
      simp only [Bool.and_eq_true, decide_eq_true_eq] at h
      rw [g.N, g.sc]
      refine ⟨h.1, ?_⟩
      have := h.2
      split at this <;> simp_all
    obtain ⟨a1, a2⟩ := pl h1
    obtain ⟨b1, b2⟩ := pl h2
    obtain ⟨c1, c2⟩ := pl h3
    have ne : ∀ {i j : Nat} {x y : Str}, X.N[i]? = some x → X.N[j]? = some y → (x == y) = false → i ≠ j := fun a b h => by
      rintro rfl
      rw [a] at b
      cases b
      simp at h
    have hA := ((snd_cons ha (snd_cons hb (snd_cons hc snd_nil))).pa g.toGood (ls := [l, r, m]) (by simp [chkA, h9, h10, h11, h14, h15, h16])).1
    refine (ps_par3 g.calm g.toGood.nodup a1 b1 c1 (ne a1 b1 h6) (ne a1 c1 h7) (ne b1 c1 h8) a2 b2 c2 hA (sw_par3 g a2 b2 c2 h4 h5 h6 h7 h8 h9 h10 h11 h12 h13)).imp fun D σ H ⟨G, fp, ρ, r, hp, ev, kk⟩ => ?_
    simp only [evS] at ev
    split at ev
    · rename_i x y z ρ1 e1
      split at ev
      · cases ev
      · obtain ⟨ρ4, e2, e3⟩ := Option.map_eq_some_iff.mp ev
        cases e3
        obtain ⟨ρ3, e2, e5⟩ := Option.bind_eq_some_iff.mp e2
        obtain ⟨ρ2, e2, e4⟩ := Option.bind_eq_some_iff.mp e2
        refine ⟨G, fp, ρ, _, ρ1, hp, e1, fun vs G' H' fr fe P r => ?_⟩
        simp only [RepL] at r
        obtain ⟨v, _, f1, f2', rfl, r1, ⟨w, _, f2, f3', rfl, r2, ⟨u, _, f3, f4, rfl, r3, ⟨rfl, rfl⟩, rfl⟩, rfl⟩, rfl⟩ := r
        rw [List.append_nil] at P
        have nd : (f1 ++ (f2 ++ (f3 ++ fe))).Nodup := by have := P.nd; simpa only [List.append_assoc] using this
        have nd' : (f1 ++ ((f2 ++ f3) ++ fe)).Nodup := by simpa only [List.append_assoc] using nd
        have nd0 : (f1 ++ fe).Nodup := List.nodup_append.mpr ⟨(List.nodup_append.mp nd').1, (List.nodup_append.mp (List.nodup_append.mp nd').2.1).2.1, fun x hx y hy => (List.nodup_append.mp nd').2.2 x hx y (List.mem_append_right _ hy)⟩
        obtain ⟨g1, k1, k2, k3⟩ := put_ok P.env r1 nd0 e2
        have nd1 : (f2 ++ (f3 ++ g1)).Nodup := by have := apart nd' k2 k3; rwa [List.append_assoc] at this
        have nd2 : (f2 ++ g1).Nodup := List.nodup_append.mpr ⟨(List.nodup_append.mp nd1).1, k2, fun x hx y hy => (List.nodup_append.mp nd1).2.2 x hx y (List.mem_append_right _ hy)⟩
        obtain ⟨g2, k4, k5, k6⟩ := put_ok k1 r2 nd2 e4
        obtain ⟨g3, k7, k8, k9⟩ := put_ok k4 r3 (apart nd1 k5 k6) e5
        refine ⟨v, w, u, rfl, kk _ G' H' g3 (P.set k7 k8 fun x hx => ?_) fun z hz => ?_⟩
        · simp only [List.append_assoc]
          rcases List.mem_append.mp (k9 x hx) with z | z
          · exact List.mem_append_right _ (List.mem_append_right _ (List.mem_append_left _ z))
          · rcases List.mem_append.mp (k6 x z) with z | z
            · exact List.mem_append_right _ (List.mem_append_left _ z)
            · rcases List.mem_append.mp (k3 x z) with z | z
              · exact List.mem_append_left _ z
              · exact List.mem_append_right _ (List.mem_append_right _ (List.mem_append_right _ z))
        · simp only [asgs, List.mem_cons, List.not_mem_nil, or_false, not_or] at hz
          rw [set_out hz.2.2, set_out hz.2.1, set_out hz.1]
    · cases ev
  · cases h
theorem sS_aug {i : Nat} {o : Bo} (he : Snd p cal e) : SndS p cal W (.aug i o e) := .one (fun _ _ => rfl) fun {cc n X} g st h => by
  simp only [chkS] at h
  split at h
  · rename_i x px op v pos
    simp only [Bool.and_eq_true, decide_eq_true_eq] at h
    obtain ⟨⟨h1, rfl⟩, h2⟩ := h
    obtain ⟨g1, g2, g3⟩ := g.toGood.loc h1
    have key : ∀ {op : Operator} {f : Int → Int → Int}, PIp X op (ipI f) → (∀ σ H D, tS p cal W X.K (.aug i o e) D σ H → ∃ G fp ρ x y ρ1 ρ2, Pre X.K G H ρ σ fp ∧ ρ[i]? = some (some (.int x)) ∧ evE p.gs cal e ρ = some (.int y, ρ1) ∧ putD i (.int (f x y)) ρ1 = some ρ2 ∧ After X.K D [i] fp G H σ (.nx ρ2)) →
        PS X (.AugAssign (.Name x px) op v pos) (tS p cal W X.K (.aug i o e)) := fun {op f} hop rd => by
      refine (ps_aug g.toGood.nodup g1 g2 (he.pe g.toGood h2) hop g3).imp fun D σ H q => ?_
      obtain ⟨G, fp, ρ, x, y, ρ1, ρ2, hp, e0, e1, e2, k⟩ := rd σ H D q
      obtain ⟨vx, f1, f2, s0, b0, r0, _, _, _⟩ := tVar_q hp e0
      simp only [Rep] at r0
      obtain ⟨rfl, rfl⟩ := r0
      refine ⟨.int x, s0, G, fp, ρ, _, ρ1, hp, e1, fun v G' H' fr fe P r => ?_⟩
      simp only [Rep] at r
      obtain ⟨rfl, rfl⟩ := r
      obtain ⟨g1, k1, k2, k3⟩ := put_ok (v := .int (f x y)) (f1 := []) P.env (by simp [Rep]) (by simpa using P.pre.n) e2
      exact ⟨x, y, rfl, rfl, k _ G' H' g1 (P.set k1 k2 k3) fun z hz => set_out (by simpa using hz)⟩
    cases o
    case add =>
      refine key ip_add fun σ H D ⟨G, fp, ρ, r, hp, ev, kk⟩ => ?_
      simp only [evS] at ev
      split at ev
      · rename_i x e0
        split at ev
        · rename_i y ρ1 e1
          obtain ⟨ρ2, e2, e3⟩ := Option.map_eq_some_iff.mp ev
          cases e3
          exact ⟨G, fp, ρ, x, y, ρ1, ρ2, hp, e0, e1, e2, kk⟩
        · cases ev
      · cases ev
    case sub =>
      refine key ip_sub fun σ H D ⟨G, fp, ρ, r, hp, ev, kk⟩ => ?_
      simp only [evS] at ev
      split at ev
      · rename_i x e0
        split at ev
        · rename_i y ρ1 e1
          obtain ⟨ρ2, e2, e3⟩ := Option.map_eq_some_iff.mp ev
          cases e3
          exact ⟨G, fp, ρ, x, y, ρ1, ρ2, hp, e0, e1, e2, kk⟩
        · cases ev
      · cases ev
    all_goals
      refine ps_never.imp fun D σ H ⟨G, fp, ρ, r, hp, ev, kk⟩ => ?_
      simp only [evS] at ev
      split at ev
      · split at ev <;> cases ev
      · cases ev
  · cases h
end
end Pur

/-! Pur18: lists changed in place, loops. -/
namespace Pur
open PySem PySem.Spec PyProof.Rows L2
section
variable {p : Pg} {cal : Cal} {W : Nat} {K : PySem.W.Frag} {D : Ends} {fp fe fr : List Addr} {G H G1 H1 : Hp} {ρ ρ1 : En} {σ σ1 : St}
variable {X : Cx} {e a b c d : E} {s r : S} {t : T}

/-- a slot's own list, to be written -/
theorem own_upd {q : Bool} {i : Nat} {xs : List Pur.D} (P : Post K q fp G H G1 H1 fr ρ σ fe) (e : ρ[i]? = some (some (.lst .own xs))) :
    ∃ l vs g, σ[i]? = some (some (.ref l)) ∧ H1 l = some (.lst vs) ∧ RepL K G1 H1 xs vs g ∧ g.Nodup ∧ (∀ x ∈ g, x ∈ fe) ∧ borL xs = false ∧ ∀ xs' vs' g', RepL K G1 H1 xs' vs' g' → borL xs' = false → g'.Nodup → (∀ x ∈ g', x ∈ g ∨ x ∈ fr) →
      ∃ fe', Post K false fp G H G1 (upd H1 l (.lst vs')) [] (ρ.set i (some (.lst .own xs'))) σ fe' := by
  obtain ⟨l, vs, g, f2, s0, hl, hG, rl, hb, env2, pm, nd, hi⟩ := own_take P.pre e
  obtain ⟨nl, nd2⟩ := List.nodup_cons.mp nd
  obtain ⟨nd3, nd4, dj⟩ := List.nodup_append.mp nd2
  have infe : ∀ x, x = l ∨ x ∈ g ∨ x ∈ f2 → x ∈ fe := fun x hx => by
    refine pm.mem_iff.mp ?_
    rcases hx with q | q | q
    · rw [q]; exact List.mem_cons_self
    · exact List.mem_cons_of_mem _ (List.mem_append_left _ q)
    · exact List.mem_cons_of_mem _ (List.mem_append_right _ q)
  refine ⟨l, vs, g, s0, hl, rl, nd3, fun x hx => infe x (.inr (.inl hx)), hb, fun xs' vs' g' r' b' n' h' => ?_⟩
  have n1 : l ∉ g' := fun z => by
    rcases h' l z with q | q
    · exact nl (List.mem_append_left _ q)
    · exact P.dj l q (infe l (.inl rfl))
  have n2 : l ∉ f2 := fun z => nl (List.mem_append_right _ z)
  have env3 := own_put (vs' := vs') P.ev.h hG s0 hi env2 n2 r' n1 b'
  have E := ev_write (K := K) (o := .lst vs') P.ev.h hG
  have dj2 : ∀ x ∈ g', x ∉ f2 := fun x hx z => by
    rcases h' x hx with q | q
    · exact dj x q x z rfl
    · exact P.dj x q (infe x (.inr (.inr z)))
  refine ⟨_, P.ev.trans (E.weak fun x hx => ?_) (fun x hx => P.new x (List.mem_append_right _ hx)), env3, ?_, fun x hx => ?_, (fun z => nomatch z), (fun z => nomatch z)⟩
  · have : x = l := by simpa using hx
    rw [this]
    exact infe l (.inl rfl)
  · exact List.nodup_cons.mpr ⟨fun z => (List.mem_append.mp z).elim n1 n2, List.nodup_append.mpr ⟨n', nd4, fun x hx y hy e => by subst e; exact dj2 x hx hy⟩⟩
  · rcases List.mem_cons.mp hx with z | z
    · exact P.new x (List.mem_append_right _ (infe x (.inl z)))
    · rcases List.mem_append.mp z with z | z
      · rcases h' x z with w | w
        · exact P.new x (List.mem_append_right _ (infe x (.inr (.inl w))))
        · exact P.new x (List.mem_append_left _ w)
      · exact P.new x (List.mem_append_right _ (infe x (.inr (.inr z))))
theorem borL_app : ∀ {xs ys : List Pur.D}, borL xs = false → borL ys = false → borL (xs ++ ys) = false
  | [], ys, _, h => h
  | x :: xs, ys, h, k => by
    simp only [borL, Bool.or_eq_false_iff, List.cons_append] at h ⊢
    exact ⟨h.1, borL_app h.2 k⟩
theorem borL_set : ∀ {xs : List Pur.D} {j : Nat} {d : Pur.D}, borL xs = false → bor d = false → borL (xs.set j d) = false
  | [], j, d, _, _ => rfl
  | x :: xs, 0, d, h, k => by
    simp only [borL, Bool.or_eq_false_iff, List.set_cons_zero] at h ⊢
    exact ⟨k, h.2⟩
  | x :: xs, j + 1, d, h, k => by
    simp only [borL, Bool.or_eq_false_iff, List.set_cons_succ] at h ⊢
    exact ⟨h.1, borL_set h.2 k⟩
theorem sS_app {i : Nat} (he : Snd p cal e) : SndS p cal W (.app i e) := .one (fun _ _ => rfl) fun {cc n X} g st h => by
  simp only [chkS] at h
  split at h
  · rename_i x px m ap l cp pos
    simp only [Bool.and_eq_true, Bool.not_eq_true', decide_eq_true_eq] at h
    obtain ⟨⟨⟨⟨rfl, h1⟩, h2⟩, h3⟩, h4⟩ := h
    obtain ⟨g1, g2, g3, g4⟩ := g.toGood.vis h1
    refine (ps_expr (bm_ok (i := i) PySem.F.slot_list_append PySem.F.type_list_append mt_append (pe_var g1 g2 g3 g4) (he.pe g.toGood h4) h3 h2)).imp fun D σ H ⟨G, fp, ρ, r, hp, ev, k⟩ => ?_
    simp only [evS] at ev
    split at ev
    · rename_i xs0 e00
      split at ev
      · rename_i d ρ1 e1
        split at ev
        · rename_i xs e2
          split at ev
          · rename_i hc
            cases ev
            obtain ⟨l0, vs0, _, _, s0, hl0, _⟩ := own_take hp e00
            refine ⟨.ref l0, s0, .inl ⟨rfl, _, SqL.of hl0⟩, G, fp, ρ, _, ρ1, hp, e1, fun v G' H' fr fe P r => ?_⟩
            obtain ⟨l1, vs, gg, s1, hl1, rl, ng, hgf, hb, up⟩ := own_upd P e2
            rw [s0] at s1
            cases s1
            obtain ⟨fe', P'⟩ := up (xs ++ [d]) (vs ++ [v]) (gg ++ fr) (by
              have := rl.app (show RepL X.K G' H' [d] [v] (fr ++ []) by simp only [RepL]; exact ⟨v, [], fr, [], rfl, r, ⟨rfl, rfl⟩, rfl⟩)
              rwa [List.append_nil] at this) (borL_app hb (by simp [borL, hc.2])) (List.nodup_append.mpr ⟨ng, P.ndr, fun x hx y hy e => by subst e; exact P.dj x hy (hgf x hx)⟩) (fun x hx => List.mem_append.mp hx)
            exact ⟨l0, vs, v, rfl, rfl, hl1, by rw [← rl.length]; exact hc.1, k _ _ _ fe' P' .refl⟩
          · cases ev
        · cases ev
      · cases ev
    · cases ev
  · cases h
theorem sS_ext {i : Nat} (he : Snd p cal e) : SndS p cal W (.ext i e) := .one (fun _ _ => rfl) fun {cc n X} g st h => by
  simp only [chkS] at h
  split at h
  · rename_i x px m ap l cp pos
    simp only [Bool.and_eq_true, Bool.not_eq_true', decide_eq_true_eq] at h
    obtain ⟨⟨⟨⟨rfl, h1⟩, h2⟩, h3⟩, h4⟩ := h
    obtain ⟨g1, g2, g3, g4⟩ := g.toGood.vis h1
    refine (ps_expr (bm_ok (i := i) PySem.F.slot_list_extend PySem.F.type_list_extend mt_extend (pe_var g1 g2 g3 g4) (he.pe g.toGood h4) h3 h2)).imp fun D σ H ⟨G, fp, ρ, r, hp, ev, k⟩ => ?_
    simp only [evS] at ev
    split at ev
    · rename_i xs0 e00
      split at ev
      · rename_i f ys ρ1 e1
        split at ev
        · rename_i xs e2
          split at ev
          · rename_i hc
            cases ev
            obtain ⟨l0, vs0, _, _, s0, hl0, _⟩ := own_take hp e00
            refine ⟨.ref l0, s0, .inl ⟨rfl, _, SqL.of hl0⟩, G, fp, ρ, _, ρ1, hp, e1, fun v G' H' fr fe P r => ?_⟩
            obtain ⟨a, us, g', rfl, q1, q2, q3, q4, q5, _⟩ := r.seqL P.ev.h
            obtain ⟨l1, vs, gg, s1, hl1, rl, ng, hgf, hb, up⟩ := own_upd P e2
            rw [s0] at s1
            cases s1
            obtain ⟨fe', P'⟩ := up (xs ++ ys) (vs ++ us) (gg ++ g') (rl.app q2) (borL_app hb hc.2.2) (List.nodup_append.mpr ⟨ng, q5 P.ndr, fun x hx y hy e => by subst e; exact P.dj x (q3 x hy) (hgf x hx)⟩) (fun x hx => (List.mem_append.mp hx).imp id (q3 x))
            exact ⟨l0, a, vs, us, rfl, rfl, hl1, q4 hc.1, by rw [← rl.length, ← q2.length]; exact hc.2.1, k _ _ _ fe' P' .refl⟩
          · cases ev
        · cases ev
      · cases ev
    · cases ev
  · cases h
theorem sS_set1 {i : Nat} (hk : Snd p cal c) (he : Snd p cal e) : SndS p cal W (.set1 i c e) := .one (fun _ _ => rfl) fun {cc n X} g st h => by
  simp only [chkS] at h
  split at h
  · rename_i x px kl q v pos
    simp only [Bool.and_eq_true, Bool.not_eq_true'] at h
    obtain ⟨⟨⟨h1, h2⟩, h3⟩, h4⟩ := h
    obtain ⟨g1, g2, g3, g4⟩ := g.toGood.vis h1
    refine (ps_asg (he.pe g.toGood h4) (pg_sub (pe_var g1 g2 g3 g4) (hk.pe g.toGood h3) set_list (fun v => by cases kl <;> first | rfl | cases h2)) (by cases v <;> rfl) (by cases v <;> rfl) rfl).imp fun D σ H ⟨G, fp, ρ, r, hp, ev, k⟩ => ?_
    simp only [evS] at ev
    split at ev
    · cases ev
    · rename_i d ρ1 e1
      split at ev
      · rename_i xs0 e00
        split at ev
        · rename_i nn ρ2 e2
          split at ev
          · rename_i xs e3
            split at ev
            · rename_i j e4
              split at ev
              · rename_i hb
                cases ev
                refine ⟨G, fp, ρ, d, ρ1, hp, e1, fun v G1 H1 fr fe P1 r => ?_⟩
                obtain ⟨l0, vs0, _, _, s0, hl0, _⟩ := own_take P1.pre e00
                refine ⟨.ref l0, s0, G1, fe, ρ1, _, ρ2, P1.pre, e2, fun u G2 H2 fr2 fe2 P2 r2 => ?_⟩
                simp only [Rep] at r2
                obtain ⟨rfl, rfl⟩ := r2
                have r' := r.then P1.dj P2 (by rw [hb]; rfl)
                have P := (P1.weak.trans r.ne P2)
                rw [List.append_nil] at P
                obtain ⟨l1, vs, gg, s1, hl1, rl, ng, hgf, hbx, up⟩ := own_upd P e3
                rw [s0] at s1
                cases s1
                obtain ⟨z1, z2, z3, z4⟩ := ixN_seq e4
                obtain ⟨old, eo⟩ : ∃ o, xs[j]? = some o := by
                  have : j < xs.length := by omega
                  exact ⟨xs[j], by simp [this]⟩
                obtain ⟨f1, f2, f, pm, rl2, pm2, _⟩ := rl.set eo r'
                have nf2 : f2.Nodup := (List.nodup_append.mp (pm.nodup_iff.mpr ng)).2.1
                have mf2 : ∀ x ∈ f2, x ∈ gg := fun x hx => pm.mem_iff.mp (List.mem_append_right _ hx)
                obtain ⟨fe', P'⟩ := up _ _ f rl2 (borL_set hbx hb) (pm2.nodup_iff.mpr (List.nodup_append.mpr ⟨P.ndr, nf2, fun x hx y hy e => by subst e; exact P.dj x hx (hgf x (mf2 x hy))⟩)) (fun x hx => (List.mem_append.mp (pm2.mem_iff.mp hx)).elim .inr fun z => .inl (mf2 x z))
                exact ⟨l0, vs, nn, j, rfl, rfl, hl1, by rw [← rl.length]; exact e4, k _ _ _ fe' P' .refl⟩
              · cases ev
            · cases ev
          · cases ev
        · cases ev
      · cases ev
  · cases h

/-! ### loops -/
theorem Post.wipe {q : Bool} (P : Post K q fp G H G1 H1 fr ρ σ fe) (wp : List Nat) : ∃ fe', Post K q fp G H G1 H1 fr (wipeD ρ wp) σ fe' := by
  obtain ⟨f1, f2, e, pm⟩ := P.env.wipeD wp
  exact ⟨f2, P.env' e (List.nodup_append.mp (pm.nodup_iff.mpr P.pre.n)).2.1 fun a h => pm.mem_iff.mp (List.mem_append_right _ h)⟩
theorem sS_for {wp : List Nat} (hi : Snd p cal e) (hb : SndS p cal W s) : SndS p cal W (.for_ t e s wp) := .one (fun _ _ => rfl) fun {cc n X} g st h => by
  simp only [chkS] at h
  split at h
  · rename_i tg iter body pos
    simp only [Bool.and_eq_true, Bool.not_eq_true'] at h
    obtain ⟨⟨⟨h1, h2⟩, h3⟩, h4⟩ := h
    have hpo : PassesOwn (model X.prog X.w) X.A X.env X.xe := by rw [g.xe]; exact PySem.PassesOwn.never
    refine (ps_for hpo g.calm (hi.pi g.toGood h1) (snd_T g.toGood h3) (hb.bl g h4) (noSet h2)).imp fun D σ H ⟨G, fp, ρ, r, hp, ev, k⟩ => ?_
    simp only [evS] at ev
    split at ev
    · rename_i items kp ρ1 e1
      split at ev
      · cases ev
      · rename_i hbk
        refine ⟨G, fp, ρ, items, kp, ρ1, hp, e1, fun J kv G1 H1 fk fe P1 rk wk => ?_⟩
        let Sx : Nat → St → Hp → Prop := fun i σ' H' => ∃ G' ρ' fe', Post X.K false fp G H G' H' fk ρ' σ' fe' ∧ Rep X.K G' H' kp kv fk ∧ Ag (tgs t ++ asgs s) σ σ' ∧ forL wp t (evS p.gs cal W s) (items.drop i) ρ' = some r
        refine ⟨fun i m σ' H' => m = items.length - i ∧ i ≤ items.length ∧ Sx i σ' H', ⟨items.length, by simp, Nat.zero_le _, ?_⟩, ?_⟩
        · obtain ⟨fe2, P2⟩ := P1.wipe wp
          exact ⟨G1, _, fe2, P2.weak, rk, .refl, ev⟩
        · rintro i m σ' H' ⟨rfl, hle, G', ρ', fe', P, rk', ag, hl⟩
          by_cases hlt : i < items.length
          · refine .inr ⟨wk.go i G' H' hlt P.ev.h rk', Sx (i + 1), fun σ2 H2 hS => ⟨items.length - (i + 1), by omega, rfl, hlt, hS⟩, fun x H2 hy => ?_⟩
            obtain ⟨G2, dx, E2, hdx, rdx⟩ := wk.yld i G' H' x H2 hlt P.ev.h rk' hy
            have P2 := P.step rk'.ne E2 P.ndr fun x h => .inl h
            have rk2 := rk'.ev E2 (fun a _ z => nomatch z) (.inr rfl)
            have hdrop : items.drop i = dx :: items.drop (i + 1) := by
              rw [List.drop_eq_getElem_cons hlt]
              congr 1
              have := List.getElem?_eq_getElem hlt
              rw [hdx] at this
              exact (Option.some.inj this).symm
            rw [hdrop] at hl
            simp only [forL] at hl
            split at hl
            · cases hl
            · rename_i ρ2 eb
              refine ⟨G2, fe', [], ρ', dx, ρ2, P2.ev.h, P2.env, by simpa using P2.pre.n, rdx, eb, fun σ2 fe2 k1 k2 k3 k4 k5 => ?_⟩
              have P3 := P2.env' k1 k2 fun a ha => by simpa using k3 a ha
              have ag2 : Ag (tgs t) σ' σ2 := fun j hj => k4 j hj
              cases hbody : evS p.gs cal W s ρ2 with
              | none => rw [hbody] at hl; cases hl
              | some rr =>
                refine ⟨G2, fe2, ρ2, rr, P3.pre, hbody, ?_⟩
                rw [hbody] at hl
                have agx : ∀ {σ4 : St}, Ag (asgs s) σ2 σ4 → Ag (tgs t ++ asgs s) σ σ4 := fun a4 => (ag.trans (ag2.trans a4)).mono fun j hj => (List.mem_append.mp hj).elim id id
                have fin : ∀ {ρ3 : En} {σ4 : St} {G4 H4 : Hp} {fe4 : List Addr}, Post X.K false fe2 G2 H2 G4 H4 [] ρ3 σ4 fe4 → Ag (asgs s) σ2 σ4 → forL wp t (evS p.gs cal W s) (items.drop (i + 1)) (wipeD ρ3 wp) = some r → Sx (i + 1) σ4 H4 := fun {ρ3 σ4 G4 H4 fe4} P4 a4 hl => by
                  have P5 := P3.trans rk2.ne P4
                  rw [List.append_nil] at P5
                  obtain ⟨fe5, P6⟩ := P5.wipe wp
                  exact ⟨G4, _, fe5, P6.weak, rk2.then P3.dj P4 (by simp [hbk]), agx a4, hl⟩
                cases rr with
                | nx ρ3 => exact fun σ4 G4 H4 fe4 P4 a4 => fin P4 a4 hl
                | ct ρ3 => exact fun σ4 G4 H4 fe4 P4 a4 => fin P4 a4 hl
                | bk ρ3 =>
                  cases hl
                  refine fun σ4 G4 H4 fe4 P4 a4 => ?_
                  obtain ⟨fe5, P6⟩ := ((P3.out (q := false)).trans (fun x h => nomatch h) P4).wipe wp
                  exact k σ4 G4 H4 fe5 P6 (agx a4)
                | rt dd ρ3 =>
                  cases hl
                  exact fun v σ4 G4 H4 fr4 fe4 P4 b4 r4 a4 => k v σ4 G4 H4 fr4 fe4 (P3.out.trans (fun x h => nomatch h) P4) b4 r4 (agx a4)
          · have he : i = items.length := by omega
            subst he
            rw [List.drop_length] at hl
            simp only [forL] at hl
            cases hl
            exact .inl ⟨wk.stop G' H' P.ev.h rk', k σ' G' H' fe' P.out ag⟩
    · cases ev
  · cases h
theorem sS_whl {wp : List Nat} (hc : Snd p cal c) (hb : SndS p cal W s) : SndS p cal W (.whl c s wp) := .one (fun _ _ => rfl) fun {cc n X} g st h => by
  simp only [chkS] at h
  split at h
  · rename_i test body pos
    simp only [Bool.and_eq_true] at h
    have hpo : PassesOwn (model X.prog X.w) X.A X.env X.xe := by rw [g.xe]; exact PySem.PassesOwn.never
    refine (ps_while hpo (hc.pt g.toGood h.1) (hb.bl g h.2)).imp fun D σ H ⟨G, fp, ρ, r, hp, ev, k⟩ => ?_
    simp only [evS] at ev
    refine ⟨fun m σ' H' => ∃ G' ρ' fe', Post X.K false fp G H G' H' [] ρ' σ' fe' ∧ Ag (asgs s) σ σ' ∧ whlL wp (evE p.gs cal c) (evS p.gs cal W s) m ρ' = some r, ⟨W, ?_⟩, ?_⟩
    · obtain ⟨fe2, P2⟩ := (hp.post (p := false)).wipe wp
      exact ⟨G, _, fe2, P2, .refl, ev⟩
    · rintro m σ' H' ⟨G', ρ', fe', P, ag, hl⟩
      cases m with
      | zero => simp only [whlL] at hl; cases hl
      | succ m =>
        simp only [whlL] at hl
        split at hl
        · rename_i ρ1 e1
          cases hl
          exact ⟨G', fe', ρ', false, ρ1, P.pre, e1, fun G2 H2 fe2 P2 => iteF (k σ' G2 H2 fe2 (P.trans (fun x h => nomatch h) P2).weak ag)⟩
        · rename_i ρ1 e1
          refine ⟨G', fe', ρ', true, ρ1, P.pre, e1, fun G2 H2 fe2 P2 => ?_⟩
          refine iteT ?_
          have P3 := (P.trans (fun x h => nomatch h) P2.weak)
          refine ⟨fun σ' H' => ∃ G' ρ' fe', Post X.K false fp G H G' H' [] ρ' σ' fe' ∧ Ag (asgs s) σ σ' ∧ whlL wp (evE p.gs cal c) (evS p.gs cal W s) m ρ' = some r, fun σ4 H4 q => ⟨m, Nat.lt_succ_self _, q⟩, ?_⟩
          cases hbody : evS p.gs cal W s ρ1 with
          | none => rw [hbody] at hl; cases hl
          | some rr =>
            refine ⟨G2, fe2, ρ1, rr, P3.pre, hbody, ?_⟩
            rw [hbody] at hl
            have agx : ∀ {σ4 : St}, Ag (asgs s) σ' σ4 → Ag (asgs s) σ σ4 := fun a4 => (ag.trans a4).mono fun j hj => by simpa using hj
            have fin : ∀ {ρ3 : En} {σ4 : St} {G4 H4 : Hp} {fe4 : List Addr}, Post X.K false fe2 G2 H2 G4 H4 [] ρ3 σ4 fe4 → Ag (asgs s) σ' σ4 → whlL wp (evE p.gs cal c) (evS p.gs cal W s) m (wipeD ρ3 wp) = some r → ∃ G' ρ' fe', Post X.K false fp G H G' H4 [] ρ' σ4 fe' ∧ Ag (asgs s) σ σ4 ∧ whlL wp (evE p.gs cal c) (evS p.gs cal W s) m ρ' = some r := fun {ρ3 σ4 G4 H4 fe4} P4 a4 hl => by
              obtain ⟨fe5, P6⟩ := (P3.trans (fun x h => nomatch h) P4).wipe wp
              exact ⟨G4, _, fe5, P6, agx a4, hl⟩
            cases rr with
            | nx ρ3 => exact fun σ4 G4 H4 fe4 P4 a4 => fin P4 a4 hl
            | ct ρ3 => exact fun σ4 G4 H4 fe4 P4 a4 => fin P4 a4 hl
            | bk ρ3 =>
              cases hl
              refine fun σ4 G4 H4 fe4 P4 a4 => ?_
              obtain ⟨fe5, P6⟩ := (P3.trans (fun x h => nomatch h) P4).wipe wp
              exact k σ4 G4 H4 fe5 P6 (agx a4)
            | rt dd ρ3 =>
              cases hl
              exact fun v σ4 G4 H4 fr4 fe4 P4 b4 r4 a4 => k v σ4 G4 H4 fr4 fe4 (P3.trans (fun x h => nomatch h) P4) b4 r4 (agx a4)
        · cases hl
  · cases h
end
end Pur

/-! Pur19: lists in lists changed in place. -/
namespace Pur
open PySem PySem.Spec PyProof.Rows L2
section
variable {p : Pg} {cal : Cal} {W : Nat} {K : PySem.W.Frag} {D : Ends} {fp fe fr : List Addr} {G H G1 H1 : Hp} {ρ ρ1 : En} {σ σ1 : St}
variable {X : Cx} {e a b c d : E} {s r : S} {t : T}

theorem own_in {q : Bool} {i j : Nat} {xs ys : List Pur.D} (P : Post K q fp G H G1 H1 fr ρ σ fe) (e : ρ[i]? = some (some (.lst .own xs))) (ej : xs[j]? = some (.lst .own ys)) :
    ∃ l vs m us g, σ[i]? = some (some (.ref l)) ∧ H1 l = some (.lst vs) ∧ vs.length = xs.length ∧ vs[j]? = some (.ref m) ∧ H1 m = some (.lst us) ∧ RepL K G1 H1 ys us g ∧ g.Nodup ∧ (∀ x ∈ g, x ∈ fe) ∧ borL ys = false ∧ ∀ ys' us' g', RepL K G1 H1 ys' us' g' → borL ys' = false → g'.Nodup → (∀ x ∈ g', x ∈ g ∨ x ∈ fr) →
      ∃ fe', Post K false fp G H G1 (upd H1 m (.lst us')) [] (ρ.set i (some (.lst .own (xs.set j (.lst .own ys'))))) σ fe' := by
  obtain ⟨l, vs, g, f2, s0, hl, hG, rl, hb, env2, pm, nd, hi⟩ := own_take P.pre e
  obtain ⟨nl, nd2⟩ := List.nodup_cons.mp nd
  obtain ⟨nd3, nd4, dj⟩ := List.nodup_append.mp nd2
  have infe : ∀ x, x = l ∨ x ∈ g ∨ x ∈ f2 → x ∈ fe := fun x hx => by
    refine pm.mem_iff.mp ?_
    rcases hx with q | q | q
    · rw [q]; exact List.mem_cons_self
    · exact List.mem_cons_of_mem _ (List.mem_append_left _ q)
    · exact List.mem_cons_of_mem _ (List.mem_append_right _ q)
  obtain ⟨f1, h2, f, pm2, rl2, pm3, v, ev, rv⟩ := rl.set (d' := .int 0) (v' := .int 0) (f0 := []) ej (by simp [Rep])
  simp only [Rep] at rv
  obtain ⟨m, us, gy, rfl, ry, hm, hGm, rfl⟩ := rv
  have nd5 : (m :: (gy ++ h2)).Nodup := pm2.nodup_iff.mpr nd3
  obtain ⟨nm, nd6⟩ := List.nodup_cons.mp nd5
  obtain ⟨nd7, nd8, dj2⟩ := List.nodup_append.mp nd6
  have ing : ∀ x, x = m ∨ x ∈ gy ∨ x ∈ h2 → x ∈ g := fun x hx => by
    refine pm2.mem_iff.mp ?_
    rcases hx with q | q | q
    · rw [q]; exact List.mem_cons_self
    · exact List.mem_cons_of_mem _ (List.mem_append_left _ q)
    · exact List.mem_cons_of_mem _ (List.mem_append_right _ q)
  have mf : ∀ x ∈ f, x ∈ h2 := fun x hx => by simpa using pm3.mem_iff.mp hx
  have nf : f.Nodup := pm3.nodup_iff.mpr (by simpa using nd8)
  have bys : borL ys = false := by
    have key : ∀ (xs : List Pur.D) (n : Nat) (y : Pur.D), borL xs = false → xs[n]? = some y → bor y = false := by
      intro xs
      induction xs with
      | nil => intro n y _ e; simp at e
      | cons x xs ih =>
        intro n y h e
        simp only [borL, Bool.or_eq_false_iff] at h
        cases n with
        | zero => simp at e; rw [← e]; exact h.1
        | succ n => exact ih n y h.2 (by simpa using e)
    have := key xs j _ hb ej
    simpa [bor] using this
  have hml : m ≠ l := fun z => nl (List.mem_append_left _ (ing l (.inl z.symm)))
  refine ⟨l, vs, m, us, gy, s0, hl, rl.length.symm, ev, hm, ry, nd7, fun x hx => infe x (.inr (.inl (ing x (.inr (.inl hx))))), bys, fun ys' us' g' r' b' n' h' => ?_⟩
  have E := ev_write (K := K) (o := .lst us') P.ev.h hGm
  have n1 : m ∉ g' := fun z => by
    rcases h' m z with q | q
    · exact nm (List.mem_append_left _ q)
    · exact P.dj m q (infe m (.inr (.inl (ing m (.inl rfl)))))
  have r2 := r'.ev E (fun a q z => n1 (by simp at z; rw [← z]; exact q)) (.inl b')
  have bset : ∀ (d : Pur.D), bor d = false → borL (xs.set j d) = false := fun d hd => borL_set hb hd
  have rl3 := rl2.ev E (fun a q z => nm (List.mem_append_right _ (by simp at z; rw [← z]; exact mf a q))) (.inl (bset _ rfl))
  have hjl : j < xs.length := (List.getElem?_eq_some_iff.mp ej).1
  obtain ⟨k1, k2, k, pk, rl4, pk2, _⟩ := rl3.set (i := j) (d := .int 0) (d' := .lst .own ys') (v' := .ref m) (f0 := m :: g') (by simp [hjl]) (by simp only [Rep]; exact ⟨m, us', g', rfl, r2, upd_same, hGm, rfl⟩)
  rw [List.set_set, List.set_set, set_self ev] at rl4
  have mk2 : ∀ x ∈ k2, x ∈ h2 := fun x hx => mf x (pk.mem_iff.mp (List.mem_append_right _ hx))
  have mk : ∀ x ∈ k, x = m ∨ x ∈ g' ∨ x ∈ h2 := fun x hx => by
    rcases List.mem_append.mp (pk2.mem_iff.mp hx) with z | z
    · exact (List.mem_cons.mp z).imp id .inl
    · exact .inr (.inr (mk2 x z))
  have mkn : ∀ x ∈ k, x ∈ g ∨ x ∈ fr := fun x hx => by
    rcases mk x hx with z | z | z
    · exact .inl (ing x (.inl z))
    · exact (h' x z).imp (fun w => ing x (.inr (.inl w))) id
    · exact .inl (ing x (.inr (.inr z)))
  have nk : k.Nodup := by
    refine pk2.nodup_iff.mpr (List.nodup_append.mpr ⟨List.nodup_cons.mpr ⟨n1, n'⟩, (List.nodup_append.mp (pk.nodup_iff.mpr nf)).2.1, fun x hx y hy e => ?_⟩)
    subst e
    rcases List.mem_cons.mp hx with z | z
    · exact nm (List.mem_append_right _ (z ▸ mk2 x hy))
    · rcases h' x z with w | w
      · exact dj2 x w x (mk2 x hy) rfl
      · exact P.dj x w (infe x (.inr (.inl (ing x (.inr (.inr (mk2 x hy)))))))
  have e3 := env2.ev E fun a q z => dj a (ing a (.inl (by simpa using z))) a q rfl
  have e4 := e3.back (d := .lst .own (xs.set j (.lst .own ys'))) (v := .ref l) (f1 := l :: k) (get_set_none hi none) s0 (by simpa [bor] using bset (.lst .own ys') (by simpa [bor] using b')) (by simp only [Rep]; exact ⟨l, vs, k, rfl, rl4, by rw [upd_ne (Ne.symm hml)]; exact hl, hG, rfl⟩)
  rw [List.set_set] at e4
  have n2 : l ∉ f2 := fun z => nl (List.mem_append_right _ z)
  have nlk : l ∉ k := fun z => by
    rcases mkn l z with w | w
    · exact nl (List.mem_append_left _ w)
    · exact P.dj l w (infe l (.inl rfl))
  have dj3 : ∀ x ∈ k, x ∉ f2 := fun x hx z => by
    rcases mkn x hx with w | w
    · exact dj x w x z rfl
    · exact P.dj x w (infe x (.inr (.inr z)))
  refine ⟨_, P.ev.trans (E.weak fun x hx => ?_) (fun x hx => P.new x (List.mem_append_right _ hx)), e4, ?_, fun x hx => ?_, (fun z => nomatch z), (fun z => nomatch z)⟩
  · have : x = m := by simpa using hx
    rw [this]
    exact infe m (.inr (.inl (ing m (.inl rfl))))
  · exact List.nodup_cons.mpr ⟨fun z => (List.mem_append.mp z).elim nlk n2, List.nodup_append.mpr ⟨nk, nd4, fun x hx y hy e => by subst e; exact dj3 x hx hy⟩⟩
  · rcases List.mem_cons.mp hx with z | z
    · exact P.new x (List.mem_append_right _ (infe x (.inl z)))
    · rcases List.mem_append.mp z with z | z
      · rcases mkn x z with w | w
        · exact P.new x (List.mem_append_right _ (infe x (.inr (.inl w))))
        · exact P.new x (List.mem_append_left _ w)
      · exact P.new x (List.mem_append_right _ (infe x (.inr (.inr z))))
theorem sS_set2 {i : Nat} (ha : Snd p cal a) (hb : Snd p cal b) (he : Snd p cal e) : SndS p cal W (.set2 i a b e) := .one (fun _ _ => rfl) fun {cc n X} g st h => by
  simp only [chkS] at h
  split at h
  · rename_i x px kl q1 kl2 q2 v pos
    simp only [Bool.and_eq_true, Bool.not_eq_true'] at h
    obtain ⟨⟨⟨⟨⟨h1, h2⟩, h3⟩, h4⟩, h5⟩, h6⟩ := h
    obtain ⟨g1, g2, g3, g4⟩ := g.toGood.vis h1
    refine (ps_asg (he.pe g.toGood h6) (pg_sub (pe_ix ix_list (pe_var g1 g2 g3 g4) (ha.pe g.toGood h4) (plainIx h2)) (hb.pe g.toGood h5) set_list (fun v => by cases kl2 <;> first | rfl | cases h3)) (by cases v <;> rfl) (by cases v <;> rfl) rfl).imp fun D σ H ⟨G, fp, ρ, r, hp, ev, k⟩ => ?_
    simp only [evS] at ev
    split at ev
    · cases ev
    · rename_i d ρ1 e1
      split at ev
      · rename_i xs0 e00
        split at ev
        · rename_i n1 ρ2 e2
          split at ev
          · rename_i xs2 e3
            split at ev
            · rename_i ys2 e4
              split at ev
              · rename_i n2 ρ3 e5
                split at ev
                · rename_i hpb
                  split at ev
                  · rename_i xs e6
                    split at ev
                    · rename_i j1 e7
                      split at ev
                      · rename_i ys e8
                        split at ev
                        · rename_i j2 e9
                          split at ev
                          · rename_i hbd
                            cases ev
                            refine ⟨G, fp, ρ, d, ρ1, hp, e1, fun v G1 H1 fr fe P1 r => ?_⟩
                            obtain ⟨l0, vs0, _, _, s0, hl0, _⟩ := own_take P1.pre e00
                            refine ⟨.ref l0, s0, G1, fe, ρ1, _, ρ2, P1.pre, e2, fun u G2 H2 fr2 fe2 P2 r2 => ?_⟩
                            simp only [Rep] at r2
                            obtain ⟨rfl, rfl⟩ := r2
                            obtain ⟨l2, vs2, gg2, _, s2, hl2, _, rl2, _⟩ := own_take P2.pre e3
                            rw [s0] at s2
                            cases s2
                            obtain ⟨w, fw, ew, rw', _⟩ := rl2.atI e4
                            simp only [Rep] at rw'
                            obtain ⟨m, us, gm, rfl, _⟩ := rw'
                            refine ⟨l0, vs2, n1, .ref m, rfl, rfl, SqL.of hl2, ew, G2, fe2, ρ2, _, ρ3, P2.pre, e5, fun u G3 H3 fr3 fe3 P3 r3 => ?_⟩
                            simp only [Rep] at r3
                            obtain ⟨rfl, rfl⟩ := r3
                            have P23 := P2.trans (fun x h => nomatch h) P3
                            have r' := r.then P1.dj P23 (by rw [hbd]; rfl)
                            have P := (P1.weak.trans r.ne P23)
                            simp only [List.append_nil] at P
                            obtain ⟨l1, vs, m', us', gy, s1, hl1, hlen, evm, hm, ry, ng, hgf, bys, up⟩ := own_in P e6 e8
                            rw [s0] at s1
                            cases s1
                            have hsame := (P3.pu hpb).same _ _ hl2
                            have hvs : vs2 = vs := (HO.lst.inj (Option.some.inj (hl1.symm.trans hsame))).symm
                            rw [hvs] at ew
                            have : m' = m := by
                              unfold L2.atI at ew
                              rw [hlen, e7] at ew
                              have ew : vs[j1]? = some (V.ref m) := ew
                              rw [evm] at ew
                              cases ew
                              rfl
                            subst this
                            obtain ⟨z1, z2, z3, z4⟩ := ixN_seq e9
                            obtain ⟨old, eo⟩ : ∃ o, ys[j2]? = some o := by
                              have : j2 < ys.length := by omega
                              exact ⟨ys[j2], by simp [this]⟩
                            obtain ⟨f1, f2, f, pm, rl3, pm2, _⟩ := ry.set eo r'
                            have nf2 : f2.Nodup := (List.nodup_append.mp (pm.nodup_iff.mpr ng)).2.1
                            have mf2 : ∀ x ∈ f2, x ∈ gy := fun x hx => pm.mem_iff.mp (List.mem_append_right _ hx)
                            obtain ⟨fe', P'⟩ := up _ _ f rl3 (borL_set bys hbd) (pm2.nodup_iff.mpr (List.nodup_append.mpr ⟨P.ndr, nf2, fun x hx y hy e => by subst e; exact P.dj x hx (hgf x (mf2 x hy))⟩)) (fun x hx => (List.mem_append.mp (pm2.mem_iff.mp hx)).elim .inr fun z => .inl (mf2 x z))
                            exact ⟨m', us', n2, j2, rfl, rfl, hm, by rw [← ry.length]; exact e9, k _ _ _ fe' P' .refl⟩
                          · cases ev
                        · cases ev
                      · cases ev
                    · cases ev
                  · cases ev
                · cases ev
              · cases ev
            · cases ev
          · cases ev
        · cases ev
      · cases ev
  · cases h
theorem borL_erase : ∀ {xs : List Pur.D} {n : Nat}, borL xs = false → borL (xs.eraseIdx n) = false
  | [], n, h => rfl
  | x :: xs, 0, h => by
    simp only [borL, Bool.or_eq_false_iff] at h
    exact h.2
  | x :: xs, n + 1, h => by
    simp only [borL, Bool.or_eq_false_iff, List.eraseIdx_cons_succ] at h ⊢
    exact ⟨h.1, borL_erase h.2⟩
theorem sS_pop2 {i : Nat} (ha : Snd p cal a) (hb : Snd p cal b) : SndS p cal W (.pop2 i a b) := .one (fun _ _ => rfl) fun {cc n X} g st h => by
  simp only [chkS] at h
  split at h
  · rename_i x px kl q1 m ap l cp pos
    simp only [Bool.and_eq_true, Bool.not_eq_true', decide_eq_true_eq] at h
    obtain ⟨⟨⟨⟨⟨⟨rfl, h1⟩, h2⟩, h3⟩, h4⟩, h5⟩, h6⟩ := h
    obtain ⟨g1, g2, g3, g4⟩ := g.toGood.vis h1
    have hs := starEach_cons (env := X.env) (es := []) h4
    refine (ps_expr (pe_bm PySem.F.plainAttrs_list PySem.F.slot_list_pop PySem.F.type_list_pop mt_popAt (pe_ix ix_list (pe_var g1 g2 g3 g4) (ha.pe g.toGood h5) (plainIx h2)) (pa_cons (hb.pe g.toGood h6) pa_nil hs) (by rfl) (by rw [hs]; rfl) h3 hs (by rfl))).imp fun D σ H ⟨G, fp, ρ, r, hp, ev, k⟩ => ?_
    simp only [evS] at ev
    split at ev
    · rename_i xs0 e00
      split at ev
      · rename_i n1 ρ1 e2
        split at ev
        · rename_i xs2 e3
          split at ev
          · rename_i ys2 e4
            split at ev
            · rename_i n2 ρ2 e5
              split at ev
              · rename_i hpb
                split at ev
                · rename_i xs e6
                  split at ev
                  · rename_i j1 e7
                    split at ev
                    · rename_i ys e8
                      split at ev
                      · rename_i j2 e9
                        split at ev
                        · rename_i hj
                          cases ev
                          obtain ⟨l0, vs0, _, _, s0, hl0, _⟩ := own_take hp e00
                          refine ⟨.ref l0, s0, G, fp, ρ, _, ρ1, hp, e2, fun u G2 H2 fr2 fe2 P2 r2 => ?_⟩
                          simp only [Rep] at r2
                          obtain ⟨rfl, rfl⟩ := r2
                          obtain ⟨l2, vs2, gg2, _, s2, hl2, _, rl2, _⟩ := own_take P2.pre e3
                          rw [s0] at s2
                          cases s2
                          obtain ⟨w, fw, ew, rw', _⟩ := rl2.atI e4
                          simp only [Rep] at rw'
                          obtain ⟨m, us, gm, rfl, _, hm0, _⟩ := rw'
                          refine ⟨l0, vs2, n1, .ref m, rfl, rfl, SqL.of hl2, ew, .inl ⟨rfl, _, SqL.of hm0⟩, G2, fe2, ρ1, _, ρ2, P2.pre, e5, fun u G3 H3 fr3 fe3 P3 r3 => ?_⟩
                          simp only [Rep] at r3
                          obtain ⟨rfl, rfl⟩ := r3
                          have P := P2.weak.trans (fun x h => nomatch h) P3
                          obtain ⟨l1, vs, m', us', gy, s1, hl1, hlen, evm, hm, ry, ng, hgf, bys, up⟩ := own_in P e6 e8
                          rw [s0] at s1
                          cases s1
                          have hsame := (P3.pu hpb).same _ _ hl2
                          have hvs : vs2 = vs := (HO.lst.inj (Option.some.inj (hl1.symm.trans hsame))).symm
                          rw [hvs] at ew
                          have : m' = m := by
                            unfold L2.atI at ew
                            rw [hlen, e7] at ew
                            have ew : vs[j1]? = some (V.ref m) := ew
                            rw [evm] at ew
                            cases ew
                            rfl
                          subst this
                          obtain ⟨z1, z2, z3, z4⟩ := ixN_seq e9
                          obtain ⟨old, eo⟩ : ∃ o, ys[j2]? = some o := by
                            have : j2 < ys.length := by omega
                            exact ⟨ys[j2], by simp [this]⟩
                          obtain ⟨ov, f1, f2, evo, _, rrest, pm⟩ := ry.get eo
                          obtain ⟨fe', P'⟩ := up _ _ f2 rrest (borL_erase bys) ((List.nodup_append.mp (pm.nodup_iff.mpr ng)).2.1) (fun x hx => .inl (pm.mem_iff.mp (List.mem_append_right _ hx)))
                          exact ⟨m', us', n2, j2, ov, rfl, rfl, hm, hj.1, hj.2, by rw [← ry.length]; exact z1, evo, k _ _ _ fe' P' .refl⟩
                        · cases ev
                      · cases ev
                    · cases ev
                  · cases ev
                · cases ev
              · cases ev
            · cases ev
          · cases ev
        · cases ev
      · cases ev
    · cases ev
  · cases h
end
end Pur

/-! Pur20: comprehensions over two. -/
namespace Pur
open PySem PySem.Spec PyProof.Rows L2

/-- in the middle of making a list at D0 -/
def LS (K : PySem.W.Frag) (pp : Bool) (fp : List Addr) (G H G1 : Hp) (D0 : Addr) (kp : D) (kv : V) (fk : List Addr) (ks : List D) (kvs : List V) (fks : List Addr) (G2 H2 : Hp) (ρ : En) (σ : St) (fe : List Addr) (ys : List D) : Prop :=
  ∃ us facc, Post K pp fp G H G2 H2 (D0 :: (facc ++ (fk ++ fks))) ρ σ fe ∧ H2 D0 = some (.lst us) ∧ G2 D0 = none ∧ RepL K G2 H2 ys us facc ∧ borL ys = false ∧ Rep K G2 (del H2 D0) kp kv fk ∧ RepL K G2 (del H2 D0) ks kvs fks ∧ Same G1 G2
section
variable {p : Pg} {cal : Cal} {K : PySem.W.Frag} {pp : Bool} {fp fe fe2 fr fk fks fk2 : List Addr} {G H G1 G2 H2 G3 H3 : Hp} {ρ ρ1 ρ2 ρ3 : En} {σ σ1 σ2 : St} {D0 : Addr} {kp kp2 y : D} {kv kv2 v : V} {ks ys : List D} {kvs : List V}
theorem RepL.undel {l : Addr} {ds : List D} {vs : List V} (r : RepL K G (Pur.del H l) ds vs fr) : RepL K G H ds vs fr := by
  refine RepL.kp ⟨Same.refl _, fun a h => ?_, fun _ b o z => ?_⟩ r
  · have n : a ≠ l := fun w => by subst w; exact r.ne a h del_same
    exact ⟨(del_ne n).symm, rfl⟩
  · have n : b ≠ l := fun w => by subst w; rw [del_same] at z; cases z
    rw [del_ne n] at z; exact z
theorem LS.pre (L : LS K pp fp G H G1 D0 kp kv fk ks kvs fks G2 H2 ρ σ fe ys) : Pre K G2 H2 ρ σ fe := let ⟨_, _, P, _⟩ := L; P.pre
theorem LS.ne {us : List V} {facc : List Addr} (h1 : H2 D0 = some (.lst us)) (h2 : RepL K G2 H2 ys us facc) (h3 : Rep K G2 (del H2 D0) kp kv fk) (h4 : RepL K G2 (del H2 D0) ks kvs fks) : ∀ x ∈ D0 :: (facc ++ (fk ++ fks)), H2 x ≠ none := fun x hx => by
  rcases List.mem_cons.mp hx with z | z
  · rw [z, h1]; simp
  · rcases List.mem_append.mp z with z | z
    · exact h2.ne x z
    · rcases List.mem_append.mp z with z | z
      · exact h3.undel.ne x z
      · exact h4.undel.ne x z
theorem LS.bind (L : LS K pp fp G H G1 D0 kp kv fk ks kvs fks G2 H2 ρ σ fe ys) (e : EnvP K G2 H2 ρ1 σ1 fe2) (n : fe2.Nodup) (h : ∀ a ∈ fe2, a ∈ fe) : LS K pp fp G H G1 D0 kp kv fk ks kvs fks G2 H2 ρ1 σ1 fe2 ys := by
  obtain ⟨us, facc, P, r⟩ := L
  exact ⟨us, facc, P.env' e n h, r⟩
theorem LS.step (L : LS K pp fp G H G1 D0 kp kv fk ks kvs fks G2 H2 ρ σ fe ys) (e : Ev [] G2 H2 G3 H3) : LS K pp fp G H G1 D0 kp kv fk ks kvs fks G3 H3 ρ σ fe ys := by
  obtain ⟨us, facc, P, h1, h2, h3, h4, h5, h6, h7⟩ := L
  have hG3 : G3 D0 = none := by rw [(e.k D0 (by rw [h1]; simp) (fun z => nomatch z)).2]; exact h2
  exact ⟨us, facc, P.step (LS.ne h1 h3 h5 h6) e P.ndr fun x h => .inl h, e.same _ _ h1, hG3, h3.ev e (fun a _ z => nomatch z) (.inr rfl), h4, h5.ev (e.del hG3) (fun a _ z => nomatch z) (.inr rfl), h6.ev (e.del hG3) (fun a _ z => nomatch z) (.inr rfl), h7.trans e.g⟩
theorem LS.expr (L : LS K pp fp G H G1 D0 kp kv fk ks kvs fks G2 H2 ρ σ fe ys) (P' : Post K true fe G2 H2 G3 H3 [] ρ1 σ fe2) : LS K pp fp G H G1 D0 kp kv fk ks kvs fks G3 H3 ρ1 σ fe2 ys := by
  obtain ⟨us, facc, P, h1, h2, h3, h4, h5, h6, h7⟩ := L
  have e := P'.pu rfl
  have hG3 : G3 D0 = none := by rw [(e.k D0 (by rw [h1]; simp) (fun z => nomatch z)).2]; exact h2
  have PP := P.trans (LS.ne h1 h3 h5 h6) P'
  rw [List.append_nil] at PP
  exact ⟨us, facc, PP.imp fun z => by rw [z]; rfl, e.same _ _ h1, hG3, h3.ev e (fun a _ z => nomatch z) (.inr rfl), h4, h5.ev (e.del hG3) (fun a _ z => nomatch z) (.inr rfl), h6.ev (e.del hG3) (fun a _ z => nomatch z) (.inr rfl), h7.trans e.g⟩
theorem LS.push (L : LS K pp fp G H G1 D0 kp kv fk ks kvs fks G2 H2 ρ σ fe ys) (P' : Post K true fe G2 H2 G3 H3 fr ρ1 σ fe2) (r : Rep K G3 H3 y v fr) (hb : bor y = false) :
    ∃ us, H3 D0 = some (.lst us) ∧ us.length = ys.length ∧ LS K pp fp G H G1 D0 kp kv fk ks kvs fks G3 (upd H3 D0 (.lst (us ++ [v]))) ρ1 σ fe2 (ys ++ [y]) := by
  obtain ⟨us, facc, P, h1, h2, h3, h4, h5, h6, h7⟩ := L
  have e := P'.pu rfl
  have hG3 : G3 D0 = none := by rw [(e.k D0 (by rw [h1]; simp) (fun z => nomatch z)).2]; exact h2
  have PP := (P.trans (LS.ne h1 h3 h5 h6) P').imp (q := pp) fun z => by rw [z]; rfl
  have k1 := e.same _ _ h1
  have k3 := h3.ev e (fun a _ z => nomatch z) (.inr rfl)
  have k5 := h5.ev (e.del hG3) (fun a _ z => nomatch z) (.inr rfl)
  have k6 := h6.ev (e.del hG3) (fun a _ z => nomatch z) (.inr rfl)
  have pm : (D0 :: ((facc ++ fr) ++ (fk ++ fks))).Perm ((D0 :: (facc ++ (fk ++ fks))) ++ fr) := by
    show (D0 :: ((facc ++ fr) ++ (fk ++ fks))).Perm (D0 :: ((facc ++ (fk ++ fks)) ++ fr))
    refine List.Perm.cons _ ?_
    rw [List.append_assoc, List.append_assoc facc]
    exact List.Perm.append_left _ List.perm_append_comm
  have kne : ∀ x ∈ (D0 :: (facc ++ (fk ++ fks))) ++ fr, H3 x ≠ none := fun x hx => (List.mem_append.mp hx).elim (LS.ne k1 k3 k5 k6 x) (r.ne x)
  have PR := PP.less kne (pm.nodup_iff.mpr PP.ndr) fun x h => pm.mem_iff.mp h
  have PS := PR.wr (o := .lst (us ++ [v])) hG3
  have EW := ev_write (K := K) (o := .lst (us ++ [v])) PP.ev.h hG3
  obtain ⟨nD1, _⟩ := List.nodup_cons.mp PR.ndr
  have nDa : D0 ∉ facc := fun z => nD1 (List.mem_append_left _ (List.mem_append_left _ z))
  have nDr : D0 ∉ fr := fun z => nD1 (List.mem_append_left _ (List.mem_append_right _ z))
  refine ⟨us, k1, h3.length.symm, us ++ [v], facc ++ fr, PS, upd_same, hG3, ?_, borL_app h4 (by simp [borL, hb]), by rw [del_upd]; exact k5, by rw [del_upd]; exact k6, h7.trans e.g⟩
  refine (k3.ev EW (fun a h z => nDa (by simp at z; rw [← z]; exact h)) (.inl h4)).app ?_
  simp only [RepL]
  exact ⟨v, [], fr, [], rfl, r.ev EW (fun a h z => nDr (by simp at z; rw [← z]; exact h)) (.inl hb), by simp, by simp⟩
theorem LS.wiped (L : LS K pp fp G H G1 D0 kp kv fk ks kvs fks G2 H2 ρ σ fe ys) (vs : List Nat) : ∃ fe', LS K pp fp G H G1 D0 kp kv fk ks kvs fks G2 H2 (wipeD ρ vs) (wipe σ vs) fe' ys := by
  obtain ⟨g1, g2, e1, e2⟩ := L.pre.e.wipeD vs
  exact ⟨g2, L.bind (EnvP.wipeS e1 vs fun v h => h) (List.nodup_append.mp (e2.nodup_iff.mpr L.pre.n)).2.1 fun a h => e2.mem_iff.mp (List.mem_append_right _ h)⟩
theorem LS.inner (L : LS K pp fp G H G1 D0 kp kv fk [] [] [] G2 H2 ρ σ fe ys) (P' : Post K true fe G2 H2 G3 H3 fk2 ρ1 σ fe2) (r : Rep K G3 H3 kp2 kv2 fk2) (hb : bor kp2 = false) :
    LS K pp fp G H G1 D0 kp2 kv2 fk2 [kp] [kv] fk G3 H3 ρ1 σ fe2 ys := by
  obtain ⟨us, facc, P, h1, h2, h3, h4, h5, h6, h7⟩ := L
  have e := P'.pu rfl
  have hG3 : G3 D0 = none := by rw [(e.k D0 (by rw [h1]; simp) (fun z => nomatch z)).2]; exact h2
  have PP := (P.trans (LS.ne h1 h3 h5 h6) P').imp (q := pp) fun z => by rw [z]; rfl
  have k1 := e.same _ _ h1
  have k3 := h3.ev e (fun a _ z => nomatch z) (.inr rfl)
  have k5 := h5.ev (e.del hG3) (fun a _ z => nomatch z) (.inr rfl)
  have k6 := h6.ev (e.del hG3) (fun a _ z => nomatch z) (.inr rfl)
  have pm : (D0 :: (facc ++ (fk2 ++ fk))).Perm ((D0 :: (facc ++ (fk ++ []))) ++ fk2) := by
    rw [List.append_nil]
    show (D0 :: (facc ++ (fk2 ++ fk))).Perm (D0 :: ((facc ++ fk) ++ fk2))
    refine List.Perm.cons _ ?_
    rw [List.append_assoc]
    exact List.Perm.append_left _ List.perm_append_comm
  have kne : ∀ x ∈ (D0 :: (facc ++ (fk ++ []))) ++ fk2, H3 x ≠ none := fun x hx => (List.mem_append.mp hx).elim (LS.ne k1 k3 k5 k6 x) (r.ne x)
  have PR := PP.less kne (pm.nodup_iff.mpr PP.ndr) fun x h => pm.mem_iff.mp h
  obtain ⟨nD1, _⟩ := List.nodup_cons.mp PR.ndr
  have nDr : D0 ∉ fk2 := fun z => nD1 (List.mem_append_right _ (List.mem_append_left _ z))
  have ed : Ev [D0] G3 H3 G3 (del H3 D0) := by
    refine ⟨Same.refl _, fun b o z => ?_, fun a ha hf => ?_⟩
    · have n : b ≠ D0 := fun w => by subst w; rw [hG3] at z; cases z
      rw [del_ne n]; exact PP.ev.h b o z
    · have n : a ≠ D0 := fun w => hf (by simp [w])
      exact ⟨del_ne n, rfl⟩
  refine ⟨us, facc, PR, k1, hG3, k3, h4, r.ev ed (fun a h z => nDr (by simp at z; rw [← z]; exact h)) (.inl hb), ?_, h7.trans e.g⟩
  simp only [RepL]
  exact ⟨kv, [], fk, [], rfl, k5, by simp, by simp⟩
theorem LS.outer (L : LS K pp fp G H G1 D0 kp2 kv2 fk2 [kp] [kv] fk G2 H2 ρ σ fe ys) : LS K pp fp G H G1 D0 kp kv fk [] [] [] G2 H2 ρ σ fe ys := by
  obtain ⟨us, facc, P, h1, h2, h3, h4, h5, h6, h7⟩ := L
  have h6' := h6
  simp only [RepL] at h6
  obtain ⟨v, vs, f1, f2, ev, r, ⟨rfl, rfl⟩, rfl⟩ := h6
  cases ev
  have nd := P.ndr
  have pm : (D0 :: (facc ++ ((f1 ++ []) ++ []))).Sublist (D0 :: (facc ++ (fk2 ++ (f1 ++ [])))) := by
    refine List.Sublist.cons_cons _ (List.Sublist.append_left ?_ _)
    rw [List.append_nil, List.append_nil]
    exact List.sublist_append_right _ _
  refine ⟨us, facc, P.less (LS.ne h1 h3 h5 h6') (pm.nodup nd) fun x h => pm.subset h, h1, h2, h3, h4, ?_, by simp [RepL], h7⟩
  rw [List.append_nil]; exact r

/-- the turns of a loop that makes a list -/
theorem turns {t : T} {vs : List Nat} {J : It} {items zs : List D} {f : D → En → Option (List D × En)} {g : En → Option (List D × En)} {ρ0 : En} {G0 H0 : Hp} {ys0 : List D} {B : (Hp → Prop) → St → Hp → Prop} {Ed : Hp → Prop}
    (wk : Wk K J items kp kv fk) (htg : ∀ j ∈ tgs t, j ∈ vs) (hf : ∀ x ρ, f x ρ = match bindT t x ρ with
      | none => none
      | some ρ2 => g ρ2)
    (body : ∀ (Nx : Hp → Prop) o ρ2 ρ3 G2 H2 σ2 fe2 ys1, wipe σ2 vs = wipe σ vs → LS K pp fp G H G1 D0 kp kv fk ks kvs fks G2 H2 ρ2 σ2 fe2 ys1 → g ρ2 = some (o, ρ3) → (ys1 ++ o).length ≤ sizeLine →
      (∀ G3 H3 fe3, LS K pp fp G H G1 D0 kp kv fk ks kvs fks G3 H3 ρ3 (wipe σ vs) fe3 (ys1 ++ o) → Nx H3) → B Nx σ2 H2)
    (L0 : LS K pp fp G H G1 D0 kp kv fk ks kvs fks G0 H0 ρ0 (wipe σ vs) fe ys0) (hl : lcL f items ρ0 = some (zs, ρ2)) (hlen : (ys0 ++ zs).length ≤ sizeLine)
    (k : ∀ G' H' fe', LS K pp fp G H G1 D0 kp kv fk ks kvs fks G' H' ρ2 (wipe σ vs) fe' (ys0 ++ zs) → Ed H') :
    ∃ W : Nat → Nat → Hp → Prop, (∃ m, W 0 m H0) ∧ ∀ i m H, W i m H → (J.stop i H ∧ Ed H) ∨ (J.go i H ∧ ∃ Nx : Hp → Prop, (∀ H', Nx H' → ∃ m', m' < m ∧ W (i + 1) m' H') ∧ ∀ x H', J.yld i H x H' → tG K t x (wipe σ vs) H' fun σ2 H2 => wipe σ2 vs = wipe σ vs ∧ B Nx σ2 H2) := by
  let S : Nat → Hp → Prop := fun i H2 => ∃ G2 ρx fe2 ys1 zs1, LS K pp fp G H G1 D0 kp kv fk ks kvs fks G2 H2 ρx (wipe σ vs) fe2 ys1 ∧ lcL f (items.drop i) ρx = some (zs1, ρ2) ∧ ys1 ++ zs1 = ys0 ++ zs
  refine ⟨fun i m H2 => m = items.length - i ∧ i ≤ items.length ∧ S i H2, ⟨items.length, by simp, Nat.zero_le _, G0, ρ0, fe, ys0, zs, L0, hl, rfl⟩, ?_⟩
  rintro i m H2 ⟨rfl, hi, G2, ρx, fe2, ys1, zs1, L, hlc, hys⟩
  obtain ⟨us, facc, P, _, _, _, _, h5, _, _⟩ := id L
  by_cases hlt : i < items.length
  · refine .inr ⟨wk.go i G2 H2 hlt P.ev.h h5.undel, S (i + 1), fun H' hS => ⟨items.length - (i + 1), by omega, rfl, hlt, hS⟩, fun x H3 hy => ?_⟩
    obtain ⟨G3, dx, E3, hdx, rdx⟩ := wk.yld i G2 H2 x H3 hlt P.ev.h h5.undel hy
    have L3 := L.step E3
    have hdrop : items.drop i = dx :: items.drop (i + 1) := by
      rw [List.drop_eq_getElem_cons hlt]
      congr 1
      have := List.getElem?_eq_getElem hlt
      rw [hdx] at this
      exact (Option.some.inj this).symm
    rw [hdrop] at hlc
    simp only [lcL] at hlc
    rw [hf] at hlc
    cases hb : bindT t dx ρx with
    | none => rw [hb] at hlc; cases hlc
    | some ρ3 =>
      rw [hb] at hlc
      cases hg : g ρ3 with
      | none => simp only [hg] at hlc; cases hlc
      | some oo =>
        obtain ⟨o, ρ5⟩ := oo
        simp only [hg] at hlc
        split at hlc
        · cases hlc
        · rename_i zs' ρ6 hl2
          cases hlc
          refine ⟨G3, fe2, [], ρx, dx, ρ3, L3.pre.s, L3.pre.e, by simpa using L3.pre.n, rdx, hb, fun σ3 fe3 e3 n3 m3 ag len => ?_⟩
          have hw : wipe σ3 vs = wipe σ vs := wipe_eq len fun j hj => ag j fun z => hj (htg j z)
          refine ⟨hw, body _ o ρ3 ρ5 G3 H3 σ3 fe3 ys1 hw (L3.bind e3 n3 fun a h => by simpa using m3 a h) hg ?_ fun G4 H4 fe4 L4 => ⟨G4, ρ5, fe4, ys1 ++ o, zs', L4, hl2, by rw [List.append_assoc]; exact hys⟩⟩
          rw [← hys] at hlen
          simp only [List.length_append] at hlen ⊢
          omega
  · have e : i = items.length := by omega
    subst e
    simp only [List.drop_length, lcL] at hlc
    cases hlc
    rw [List.append_nil] at hys
    subst hys
    exact .inl ⟨wk.stop G2 H2 P.ev.h h5.undel, k G2 H2 fe2 L⟩
end
end Pur

/-! Pur21: comprehensions over two, as expressions. -/
namespace Pur
open PySem PySem.Spec PyProof.Rows L2
section
variable {p : Pg} {cal : Cal} {X : Cx} {a b c d es elt it it2 : E}
theorem wipe_wipe {σ : St} {vs vs2 : List Nat} (h : ∀ j ∈ vs2, j ∈ vs) : wipe (wipe σ vs2) vs = wipe σ vs := by
  refine wipe_eq (by rw [wipe_length, wipe_length]) fun j hj => ?_
  rw [wipe_get, wipe_get, if_neg (fun z => hj (h j z.1)), if_neg fun z => hj z.1]
theorem lc2_read {K : PySem.W.Frag} {t t2 : T} {vs vs2 : List Nat} {σ : St} {H : Hp} {Q : VK} (h : tE p cal K (.lc2 elt t it t2 it2 c vs vs2) σ H Q) :
    (∀ j ∈ vs2, j ∈ vs) ∧ tLc2 (tI p cal K it) (tG K t) tYes (tI p cal K it2) (tG K t2) (tT p cal K c) (tE p cal K elt) vs vs2 σ H Q := by
  obtain ⟨G, fp, ρ, w, ρ', hp, ev, k⟩ := h
  simp only [evE] at ev
  split at ev
  · cases ev
  · rename_i d0 ρ1 e1
    split at ev
    · cases ev
    · rename_i items kp e2
      split at ev
      · cases ev
      · rename_i hc
        simp only [Bool.or_eq_true, not_or, Bool.not_eq_true, Bool.not_eq_false', decide_eq_true_eq] at hc
        obtain ⟨⟨⟨⟨hc1, hc2⟩, hc3⟩, hc4⟩, hc5⟩ := hc
        have sub : ∀ j ∈ vs2, j ∈ vs := fun j hj => by simpa using List.all_eq_true.mp hc5 j hj
        split at ev
        · rename_i ys ρ2 hl
          split at ev
          · rename_i hys
            cases ev
            have eI : evI p.gs cal it ρ = some (items, kp, ρ1) := by unfold evI; rw [e1]; simp only [e2]
            refine ⟨sub, G, fp, ρ, items, kp, ρ1, hp, eI, fun J kv G1 H1 fk fe P1 rk wk => fun D0 hD => ?_⟩
            obtain ⟨g1, g2, e1', e2'⟩ := P1.env.wipeD vs
            have nfe : fe.Nodup := P1.pre.n
            have P2 := (P1.env' (EnvP.wipeS e1' vs fun v h => h) (List.nodup_append.mp (e2'.nodup_iff.mpr nfe)).2.1 fun a h => e2'.mem_iff.mp (List.mem_append_right _ h)).imp (q := isP elt && isP it && isP it2 && isP c) fun z => by
              simp only [Bool.and_eq_true] at z
              exact z.1.1.2
            have P3 := P2.more (o := .lst []) rk.ne hD
            have L0 : LS K (isP elt && isP it && isP it2 && isP c) fp G H G1 D0 kp kv fk [] [] [] G1 (upd H1 D0 (.lst [])) (wipeD ρ1 vs) (wipe σ vs) g2 [] := by
              refine ⟨[], [], by rw [List.append_nil]; exact P3, upd_same, Same.none P1.ev.h hD, by simp [RepL], rfl, ?_, by simp [RepL], Same.refl _⟩
              rw [del_new hD]; exact rk
            refine turns (B := fun Nx σ2 H2 => tYes σ2 H2 fun b H3 => if b = true then tI p cal K it2 σ2 H3 fun J1 H4 => ∃ W1 : Nat → Nat → Hp → Prop, (∃ m, W1 0 m H4) ∧ ∀ j k H, W1 j k H →
              (J1.stop j H ∧ Nx H) ∨ (J1.go j H ∧ ∃ Nx1 : Hp → Prop, (∀ H', Nx1 H' → ∃ k', k' < k ∧ W1 (j + 1) k' H') ∧ ∀ x H', J1.yld j H x H' → tG K t2 x (wipe σ2 vs2) H' fun σ3 H5 => wipe σ3 vs2 = wipe σ2 vs2 ∧ tT p cal K c σ3 H5 fun b H6 =>
                if b = true then tE p cal K elt σ3 H6 fun y H7 => ∃ acc, H7 D0 = some (.lst acc) ∧ acc.length < sizeLine ∧ Nx1 (upd H7 D0 (.lst (acc ++ [y]))) else Nx1 H6)
              else Nx H3) (Ed := Q (.ref D0)) wk (fun j hj => by simpa using List.all_eq_true.mp hc3 j hj) (fun x ρ => rfl) ?_ L0 hl (by simpa using hys) ?_
            · intro Nx o ρa ρb G2 H2 σ2 fe2 ys1 hw L hg hlen hn
              split at hg
              · cases hg
              · rename_i d2 ρ3 ei2
                split at hg
                · cases hg
                · rename_i items2 kp2 eit2
                  split at hg
                  · cases hg
                  · rename_i hc'
                    simp only [Bool.or_eq_true, not_or, Bool.not_eq_true, Bool.not_eq_false', decide_eq_true_eq, Bool.and_eq_true] at hc'
                    obtain ⟨⟨hb2, hl2⟩, ⟨hpe, hpc⟩, hpi⟩ := hc'
                    split at hg
                    · rename_i zs ρ4 hin
                      cases hg
                      have eI2 : evI p.gs cal it2 ρa = some (items2, kp2, ρ3) := by unfold evI; rw [ei2]; simp only [eit2]
                      refine iteT (B := Nx H2) ⟨G2, fe2, ρa, items2, kp2, ρ3, L.pre, eI2, fun J1 kv2 G3 H3 fk2 fe3 P3 rk2 wk2 => ?_⟩
                      have L3 := L.inner (P3.imp fun _ => hpi) rk2 hb2
                      obtain ⟨fe4, L4⟩ := L3.wiped vs2
                      refine turns (B := fun Nx1 σ3 H5 => tT p cal K c σ3 H5 fun b H6 => if b = true then tE p cal K elt σ3 H6 fun y H7 => ∃ acc, H7 D0 = some (.lst acc) ∧ acc.length < sizeLine ∧ Nx1 (upd H7 D0 (.lst (acc ++ [y]))) else Nx1 H6) (Ed := Nx)
                        wk2 (fun j hj => by simpa using List.all_eq_true.mp hc4 j hj) (fun x ρ => rfl) ?_ L4 hin hlen ?_
                      · intro Nx1 o1 ρc ρd G5 H5 σ3 fe5 ys2 hw2 L5 hg hlen2 hn2
                        split at hg
                        · rename_i ρ5 ec
                          split at hg
                          · rename_i y ρ6 ee
                            split at hg
                            · cases hg
                            · rename_i hby
                              cases hg
                              refine ⟨G5, fe5, ρc, true, ρ5, L5.pre, ec, fun G6 H6 fe6 P6 => iteT ?_⟩
                              have L6 := L5.expr (P6.imp fun _ => hpc)
                              refine ⟨G6, fe6, ρ5, y, ρ6, L6.pre, ee, fun v G7 H7 fr7 fe7 P7 r7 => ?_⟩
                              obtain ⟨us, q1, q2, L7⟩ := L6.push (P7.imp fun _ => hpe) r7 (by simpa using hby)
                              obtain ⟨fe8, L8⟩ := L7.wiped vs2
                              rw [hw2] at L8
                              refine ⟨us, q1, ?_, hn2 _ _ _ L8⟩
                              simp only [List.length_append, List.length_singleton] at hlen2
                              omega
                          · cases hg
                        · rename_i ρ5 ec
                          cases hg
                          refine ⟨G5, fe5, ρc, false, ρ5, L5.pre, ec, fun G6 H6 fe6 P6 => iteF ?_⟩
                          have L6 := L5.expr (P6.imp fun _ => hpc)
                          obtain ⟨fe8, L8⟩ := L6.wiped vs2
                          rw [hw2] at L8
                          refine hn2 G6 _ fe8 ?_
                          rw [List.append_nil]; exact L8
                        · cases hg
                      · intro G' H' fe' L'
                        obtain ⟨fe8, L8⟩ := L'.outer.wiped vs
                        rw [wipe_wipe sub, hw] at L8
                        exact hn _ _ _ L8
                    · cases hg
            · intro G' H' fe' L'
              obtain ⟨us, facc, P, q1, q2, q3, q4, q5, q6, q7⟩ := L'
              have kne := LS.ne q1 q3 q5 q6
              have sub1 : ∀ x ∈ D0 :: facc, x ∈ D0 :: (facc ++ (fk ++ [])) := fun x h => (List.mem_cons.mp h).elim (fun z => by rw [z]; exact List.mem_cons_self) fun z => List.mem_cons_of_mem _ (List.mem_append_left _ z)
              have nd1 : (D0 :: facc).Nodup := by
                obtain ⟨a1, a2⟩ := List.nodup_cons.mp P.ndr
                exact List.nodup_cons.mpr ⟨fun z => a1 (List.mem_append_left _ z), (List.nodup_append.mp a2).1⟩
              have PL := P.less kne nd1 sub1
              have lenσ : ρ2.length = σ.length := by rw [PL.env.length, wipe_length]
              have eσ : EnvP K G' H' ρ2 σ fe' := PL.env.unset (wipe_length σ vs).symm fun j => by
                by_cases hj : j ∈ vs ∧ j < σ.length
                · refine .inl ?_
                  cases hq : ρ2[j]? with
                  | none => exact absurd (List.getElem?_eq_none_iff.mp hq) (by omega)
                  | some o =>
                    cases o with
                    | none => rfl
                    | some dd =>
                      obtain ⟨v, _, _, z, _⟩ := PL.env.take hq
                      rw [wipe_get, if_pos hj] at z
                      cases z
                · refine .inr ?_
                  rw [wipe_get, if_neg hj]
              obtain ⟨f1, f2, r1, r2⟩ := restore_ok P1.env q7 eσ vs
              have nfe : fe'.Nodup := PL.pre.n
              refine k _ G' H' (D0 :: facc) f2 (PL.env' r1 (List.nodup_append.mp (r2.nodup_iff.mpr nfe)).2.1 fun a h => r2.mem_iff.mp (List.mem_append_right _ h)) ?_
              simp only [Rep]
              exact ⟨D0, us, facc, rfl, by simpa using q3, q1, q2, rfl⟩
          · cases ev
        · cases ev

theorem noSet' {iter : Expr} (h : isSet iter = false) : ∀ env x, foldedSetIterable iter env x = pure x := by
  intro env x
  cases iter <;> first | rfl | cases h
theorem lc2_both {cc : SC} {n : Nat} {X : Cx} (g : Good p cal cc n X) (he : Snd p cal elt) (hi : Snd p cal it) (hi2 : Snd p cal it2) (hd : Snd p cal c) {t t2 : T} {vs vs2 : List Nat} {l tg iter tg2 iter2 : Expr} {ifs : List Expr} {scope : Scope} {pos : Pos}
    (h : chkE p cc (.lc2 elt t it t2 it2 c vs vs2) (.ListComp l [⟨tg, iter, [], 0⟩, ⟨tg2, iter2, ifs, 0⟩] scope pos) = true) (hv : ∀ j ∈ vs2, j ∈ vs) :
    PE X (.ListComp l [⟨tg, iter, [], 0⟩, ⟨tg2, iter2, ifs, 0⟩] scope pos) (tE p cal X.K (.lc2 elt t it t2 it2 c vs vs2)) ∧
    ∀ {i : Nat} {y : Str} {py spos : Pos}, X.env.scope.kind = .function → X.N[i]? = some y → X.env.scope.names.lookup y = some .local → (py.line == pos.line) = true → (scope.names.any fun (n, k) => n == y && (k == .local || k == .cell)) = false →
      PS X (.Assign [.Name y py] (.ListComp l [⟨tg, iter, [], 0⟩, ⟨tg2, iter2, ifs, 0⟩] scope pos) spos) (tAsg (tE p cal X.K (.lc2 elt t it t2 it2 c vs vs2)) (gName i)) := by
  simp only [chkE, Bool.and_eq_true, Bool.not_eq_true'] at h
  obtain ⟨⟨⟨⟨⟨⟨⟨⟨h1, h2⟩, h3⟩, h4⟩, h5⟩, h6⟩, h7⟩, h8⟩, h9⟩ := h
  obtain ⟨o1, o2⟩ := okOwn_ok g h1
  have h2 : chkI p cc it iter tg = true := h2
  have h5 : chkI p (cc.blk scope) it2 iter2 tg2 = true := h5
  have pi := hi.pi g h2
  have pg : ∀ (s : Shared) (H : Hp) (C : Addr) (cl : List (Str × Addr)) (fp : List Addr), PG (X.blk s H scope (compEnvC scope cl C X.env) fp) tg (tG X.K t) := fun s H C cl fp => snd_T (g.blk s H scope C cl fp) h4
  have pt : ∀ (s : Shared) (H : Hp) (C : Addr) (cl : List (Str × Addr)) (fp : List Addr), PTs (X.blk s H scope (compEnvC scope cl C X.env) fp) [] tYes := fun s H C cl fp => pts_nil
  have pi2 : ∀ (s : Shared) (H : Hp) (C : Addr) (cl : List (Str × Addr)) (fp : List Addr), PI (X.blk s H scope (compEnvC scope cl C X.env) fp) tg2 iter2 (tI p cal X.K it2) := fun s H C cl fp => hi2.pi (g.blk s H scope C cl fp) h5
  have pg2 : ∀ (s : Shared) (H : Hp) (C : Addr) (cl : List (Str × Addr)) (fp : List Addr), PG (X.blk s H scope (compEnvC scope cl C X.env) fp) tg2 (tG X.K t2) := fun s H C cl fp => snd_T (g.blk s H scope C cl fp) h7
  have pt2 : ∀ (s : Shared) (H : Hp) (C : Addr) (cl : List (Str × Addr)) (fp : List Addr), PTs (X.blk s H scope (compEnvC scope cl C X.env) fp) ifs (tT p cal X.K c) := fun s H C cl fp => pts_of (g.blk s H scope C cl fp) hd h9
  have pe : ∀ (s : Shared) (H : Hp) (C : Addr) (cl : List (Str × Addr)) (fp : List Addr), PE (X.blk s H scope (compEnvC scope cl C X.env) fp) l (tE p cal X.K elt) := fun s H C cl fp => he.pe (g.blk s H scope C cl fp) h8
  have hv' : ∀ i ∈ vs2, i ∈ (ownOf cc vs).map (·.2) := by rw [o1]; exact hv
  refine ⟨(pe_lc2 g.calm g.nodup pi o2 hv' pg pt pi2 pg2 pt2 pe (noSet h3) (noSet' h6)).imp fun σ H Q q => ?_, fun kf hy hyl hl ha => ?_⟩
  · rw [o1]; exact (lc2_read q).2
  · refine (ps_setLc2 g.calm g.nodup hy hyl (sw_true kf hyl hl ha) pi o2 hv' pg pt pi2 pg2 pt2 pe (noSet h3) (noSet' h6)).imp fun D σ H q => ?_
    show tLc2 _ _ _ _ _ _ _ _ _ σ H _
    rw [o1]; exact (lc2_read q).2
theorem lc2_sub {K : PySem.W.Frag} {t t2 : T} {vs vs2 : List Nat} (hn : ¬ ∀ j ∈ vs2, j ∈ vs) {σ : St} {H : Hp} {Q : VK} : ¬ tE p cal K (.lc2 elt t it t2 it2 c vs vs2) σ H Q := fun h => hn (lc2_read h).1
theorem snd_lc2 {t t2 : T} {vs vs2 : List Nat} (he : Snd p cal elt) (hi : Snd p cal it) (hi2 : Snd p cal it2) (hd : Snd p cal c) : Snd p cal (.lc2 elt t it t2 it2 c vs vs2) := by
  have key : ∀ {cc n X}, Good p cal cc n X → ∀ {ast}, chkE p cc (.lc2 elt t it t2 it2 c vs vs2) ast = true → PE X ast (tE p cal X.K (.lc2 elt t it t2 it2 c vs vs2)) ∧ ∀ whole, isTrue ast X.env whole = (do let v ← whole; standAt ast.pos; holding [v] (truthy v)) := by
    intro cc n X g ast h
    have h' := h
    simp only [chkE] at h
    split at h
    · refine ⟨?_, fun _ => rfl⟩
      by_cases hv : ∀ j ∈ vs2, j ∈ vs
      · exact (lc2_both g he hi hi2 hd h' hv).1
      · exact ⟨fun pins s σ H Q I q => absurd q (lc2_sub hv)⟩
    · cases h
  exact .plain ⟨fun _ _ => rfl, fun _ _ _ => rfl, rfl, fun _ => rfl, fun d => by cases d <;> rfl⟩ (fun g _ h => (key g h).1) fun g _ h => pt_of (key g h).1 (key g h).2
theorem setC_lc {t : T} {vs : List Nat} (he : Snd p cal elt) (hi : Snd p cal it) (hd : Snd p cal d) : SetC p cal (.lc elt t it d vs) := by
  intro cc n X g kf l gens scope pos h i y py spos h1 h2 h3 h4
  have h' := h
  simp only [chkE] at h
  split at h
  · rename_i heq
    cases heq
    exact (lc_both g he hi hd h').2 kf h1 h2 h3 h4
  · cases h
theorem setC_lc2 {t t2 : T} {vs vs2 : List Nat} (he : Snd p cal elt) (hi : Snd p cal it) (hi2 : Snd p cal it2) (hd : Snd p cal c) : SetC p cal (.lc2 elt t it t2 it2 c vs vs2) := by
  intro cc n X g kf l gens scope pos h i y py spos h1 h2 h3 h4
  have h' := h
  simp only [chkE] at h
  split at h
  · rename_i heq
    cases heq
    by_cases hv : ∀ j ∈ vs2, j ∈ vs
    · exact (lc2_both g he hi hi2 hd h' hv).2 kf h1 h2 h3 h4
    · exact ⟨fun pins s σ H D I q => absurd q (lc2_sub hv)⟩
  · cases h
end
end Pur

/-! Pur22: how many there are of a kind: len of a dict comprehension. -/
namespace Pur
open PySem PySem.Spec PyProof.Rows L2

section
variable {X : Cx} {pins : List (Addr × Obj)} {σ : St} {H H' : Hp} {s : Shared} {d : Addr} {y v : V} {u r : Value} {A : Around} {E : Value → Shared → Prop}
/-- a key stored by a comprehension -/
theorem put_key {Q : Unit → Shared → Prop} (room : A.units + 1 < cLine) (I : Inv X pins σ H s) (g : DPut H d y v H') (ky : RelV y u) (vr : RelV v r) (k : ∀ t, Inv X pins σ H' t → Q () t) : wpAny (model X.prog X.w) A (dictSet d u r) Q E s := by
  have fit : ∀ {n m : Nat}, n < sizeLine → m ≤ n + 1 → m ≤ sizeLine := fun a b => by omega
  rcases g with ⟨ks, q, hd, rfl, short, rfl⟩ | ⟨ks, q, b, hd, rfl, hb, short, rfl⟩
  · obtain ⟨le, nsys, vs, pr, obj⟩ := dk_of I.hok hd
    refine wpAny_dictSet_pairs (hsz := pr.length ▸ le) (kV_is ky) obj fun heap' obj' but => k _ ?_
    refine d_write I (hd ▸ trivial) but ?_ (dk_new (fit short (length_putK ks q v)) nsys (pr.put q vr) obj')
    obtain ⟨o, _, _, z, _⟩ := obj'
    exact ⟨o, z⟩
  · obtain rfl : u = Value.ref b := ky
    obtain ⟨le, nsys, xs, pr, obj⟩ := dt_of I.hok hd
    refine wpAny_dictSet_heap (hsz := Paired.length pr ▸ le) (show A.units < cLine by omega) (key_of I.hok hb) obj fun heap' obj' but => k _ ?_
    obtain ⟨o, es, ep, z, z2, z3, z4, _, z5⟩ := obj'
    refine d_write I (hd ▸ trivial) but ⟨o, z⟩ ⟨fit short (length_putK ks q v), nsys, _, (pr.put q hb vr).keeps fun c ws hc => ?_, o, es, ep, z, z2, z3, z4, z5⟩
    have : c ≠ d := fun z => by subst z; rw [hd] at hc; cases hc
    rw [upd_ne this]; exact hc
end

def tUq (wi : TI) (g : TG) (tk : TE) (b : Bool) (vs : List Nat) : TE := fun σ H Q => wi σ H fun J H1 => ∀ D, H1 D = none → ∃ o : HO, (o = .dK [] ∨ o = .dT []) ∧ ∃ W : Nat → Nat → Hp → Prop, (∃ m, W 0 m (upd H1 D o)) ∧
  ∀ i m H, W i m H → (J.stop i H ∧ Q (.ref D) H) ∨ (J.go i H ∧ ∃ Nx : Hp → Prop, (∀ H', Nx H' → ∃ m', m' < m ∧ W (i + 1) m' H') ∧
    ∀ x H', J.yld i H x H' → g x (wipe σ vs) H' fun σ2 H2 => wipe σ2 vs = wipe σ vs ∧ tk σ2 H2 fun y H4 => ∃ H5, DPut H4 D y (.bl b) H5 ∧ Nx H5)
section
variable {X : Cx} {pins : List (Addr × Obj)} {σ : St} {H : Hp} {s : Shared} {Q : VK}
theorem pe_uq {kx tg iter : Expr} {scope : Scope} {own : List (Str × Nat)} {bv : Bool} {bj : Nat} {bp pos : Pos} {wi : TI} {g : TG} {tk : TE} (calm : X.calm = true) (room : X.A.units + 1 < cLine) (nd : X.N.Nodup) (walk : PI X tg iter wi) (ok : BlkOk X.N X.env.scope scope own)
    (bind : ∀ (s : Shared) (H : Hp) (C : Addr) (cl : List (Str × Addr)) (fp : List Addr), PG (X.blk s H scope (compEnvC scope cl C X.env) fp) tg g)
    (key : ∀ (s : Shared) (H : Hp) (C : Addr) (cl : List (Str × Addr)) (fp : List Addr), PE (X.blk s H scope (compEnvC scope cl C X.env) fp) kx tk)
    (fold : ∀ x, foldedSetIterable iter X.env x = pure x) :
    PE X (.DictComp kx (.Constant (.bool bv) bj bp) [⟨tg, iter, [], 0⟩] scope pos) (tUq wi g tk bv (own.map (·.2))) := by
  refine ⟨fun pins s σ H Q I h => ?_⟩
  rw [arm_eval_DictComp]
  have free : ∀ y ∈ scope.names, y.2 = .free → ∃ c, X.env.cells.lookup y.1 = some c := fun y hy e => (ok.free y hy e).elim (fun k => I.ok.has _ (.inl k)) fun k => I.ok.has _ (.inr k)
  refine wpAny_comprehension_free (use := none) rfl fold (closure_ok free) ok.kind (fun y hy e => by rw [ok.uniq y hy, e]) ?_
  refine thn (walk.run pins s σ H _ I h) fun xv s1 hx => thn hx fun itv s2 h2 => ?_
  obtain ⟨it, fp, tn, J, H2, rfl, I2, turn, at2, ok2, q⟩ := h2
  refine wpAny_newObj_type (newEnv_comp ?_)
  generalize eD : s2.heap.objs.size = D
  obtain ⟨o, ho, W, ⟨m0, w0⟩, each⟩ := q D (I2.hok.fresh (Nat.le_of_eq eD))
  generalize e3 : ({ s2 with heap := s2.heap.push { cls := .type "dict", data := .dict #[] } } : Shared) = s3
  have grow : ∀ b ob, s2.heap.get? b = some ob → s3.heap.get? b = some ob := fun b ob z => by subst e3; exact Heap.get?_push_of_some _ z
  have big3 : s3.heap.objs.size = s2.heap.objs.size + 1 := by subst e3; exact Heap.size_push _ _
  have I3 : Inv X pins σ (upd H2 D o) s3 := by
    subst e3
    refine I2.laid (t' := s2.toks) (fun b o e => Heap.get?_push_of_some _ e) (Nat.le_of_eq eD) ?_
    subst eD
    rcases ho with rfl | rfl
    · exact dk_empty s2.heap I2.big
    · exact dt_empty s2.heap I2.big
  have there : ∀ b ∈ fp, b < s2.heap.objs.size := fun b hb => let ⟨_, z, _⟩ := turn.obj _ _ at2 b hb; Heap.lt_size z
  have ok3 : ∀ b ∈ fp, FpOk X pins (upd H2 D o) b ∧ b < s3.heap.objs.size := fun b hb => by
    have lt := there b hb
    refine ⟨⟨?_, (ok2 b hb).2⟩, big3 ▸ Nat.lt_succ_of_lt lt⟩
    have : b ≠ D := eD ▸ Nat.ne_of_lt lt
    rw [upd_ne this]
    exact (ok2 b hb).1
  have at3 : tn 0 s3.heap := turn.keep _ _ _ at2 fun b _ o z => grow b o z
  have I4 := block_start I3 ok nd ok3
  generalize eC : s3.heap.objs.size = C at I4
  generalize eL : cellsFrom (C + 1) scope.names (cloFrom X.env.cells scope.names []) = cs at I4
  have pg := bind s3 (upd H2 D o) C cs fp
  have pk := key s3 (upd H2 D o) C cs fp
  show codeAny _ _ (.compStart (.DictComp kx (.Constant (.bool bv) bj bp) [⟨tg, iter, [], 0⟩] scope pos) 0 (.ref it) (.ref D) (compEnvC scope cs C X.env))
    (compPost (model X.prog X.w) X.A X.xe none _ (.ref D) C) { s3 with heap := pushCells (s3.heap.push { cls := .type "dict", data := .dict #[] }) scope.names }
  have off : ∀ b ∈ fp, (upd H2 D o) b = none := fun b hb => (ok3 b hb).1.1
  generalize eE : compEnvC scope cs C X.env = ce at I4 pg pk ⊢
  have atC : ce.locals = C := by subst eE; rfl
  generalize eH : upd H2 D o = H3 at I3 I4 pg pk w0 off ok3
  generalize e4 : ({ s3 with heap := pushCells (s3.heap.push { cls := .type "dict", data := .dict #[] }) scope.names } : Shared) = s4 at I4 ⊢
  have at4 : tn 0 s4.heap := turn.keep _ _ _ at3 fun b _ o z => by subst e4; exact pushCells_keeps _ _ _ _ (Heap.get?_push_of_some _ z)
  have okB : ∀ {τ : St} {K' : Hp} {t : Shared}, Inv (X.blk s3 H3 scope ce fp) [] τ K' t → (∀ b ∈ fp, K' b = none) → ∀ b ∈ fp, FpOk (X.blk s3 H3 scope ce fp) [] K' b := fun J' n b hb =>
    ⟨n b hb, (J'.ok.exf b hb).1, J'.ok.exfs b hb, .inl hb, fun x c z => (J'.ok.exf b hb).2 x c z, fun p hp => nomatch (show p ∈ ([] : List (Addr × Obj)) from hp)⟩
  have loop : codeAny (model X.prog X.w) X.A (.compLoop (.DictComp kx (.Constant (.bool bv) bj bp) [⟨tg, iter, [], 0⟩] scope pos) 0 (.ref it) (.ref D) ce) (compPost (model X.prog X.w) X.A X.xe none (EP X pins σ Q) (.ref D) C) s4 := by
    refine compLoop_anyD (fun n t => ∃ i K', Inv (X.blk s3 H3 scope ce fp) [] (wipe σ (own.map (·.2))) K' t ∧ tn i t.heap ∧ (∀ b ∈ fp, K' b = none) ∧ W i n K') ?_ m0 ⟨0, H3, I4, at4, off, w0⟩
    rintro n s5 ⟨i, H5, I5, at5, n5, w5⟩
    rcases each i n H5 w5 with ⟨stop, fin⟩ | ⟨go, Nx, less, step⟩
    · refine thnF (turn.done (X.blk s3 H3 scope ce fp) rfl rfl rfl calm i [] s5 _ H5 (fun _ _ => False) I5 (okB I5 n5) at5 stop) fun r s6 ⟨er, I6⟩ => ?_
      subst er
      have back : Inv X pins σ H5 s6 := I3.call' (ch := fp) I6.os I6.base I6.hok I6.bare fun b hb => by
        obtain ⟨_, z2, z3, z4, z5, z6⟩ := (ok3 b hb).1
        exact ⟨z4, z2, z5, z6⟩
      have noC : H5 C = none := by
        have z : H5 ce.locals = none := I6.free
        rwa [atC] at z
      obtain ⟨m, hn, _⟩ := I6.loc
      have hn : s6.heap.Ns ce.locals m := hn
      rw [atC] at hn
      obtain ⟨c0, c1, c2, c3, c4, c5⟩ := I3.fpOk (Nat.le_of_eq eC) noC
      refine ⟨m, hn, fun heap' sb => ⟨.ref D, H5, back.turned (t' := s6.toks) (fun b o hb z => (sb.2 b hb).trans z) c0 c1 c3 c4 c5, rfl, fin⟩⟩
    · refine thnF (turn.item (X.blk s3 H3 scope ce fp) rfl rfl rfl calm i [] s5 _ H5 (fun _ _ => False) I5 (okB I5 n5) at5 go) fun r s6 ⟨u, er, h6⟩ => ?_
      subst er
      refine thnF h6 fun _ s7 ⟨x, H7, I7, r7, y7, at7, n7⟩ => ?_
      refine thnF (pg.run _ s7 _ H7 x u _ (I7.pinned (okB I7 n7) (turn.obj _ _ at7)) r7 (step x H7 y7)) fun _ s8 ⟨σ8, H8, I8, same, q8⟩ => ?_
      refine wpAny_tests_nil (if_pos rfl ▸ ?_)
      refine thnF (pk.run _ s8 σ8 H8 _ I8 q8) fun z s9 ⟨yk, H9, I9, r9, H10, put, nx⟩ => ?_
      refine thnF ((pe_bl (X := X.blk s3 H3 scope ce fp)).run _ s9 σ8 H9 (fun v H' => v = .bl bv ∧ H' = H9) I9 ⟨rfl, rfl⟩) fun z2 s10 ⟨yv, H9', I10, r10, e1, e2⟩ => ?_
      subst e1 e2
      refine put_key (X := X.blk s3 H3 scope ce fp) room I10 put r9 r10 fun s11 I11 => ?_
      obtain ⟨m', lt, w'⟩ := less _ nx
      have keep : ∀ b ∈ fp, ∀ ob, s7.heap.get? b = some ob → s11.heap.get? b = some ob ∧ H10 b = none := fun b hb ob z =>
        let w := I11.pin (b, ob) (List.mem_append_right _ (List.mem_append_right _ (mem_pinsAt hb z)))
        ⟨w.1, w.2.1⟩
      refine ⟨m', lt, i + 1, H10, (I11.unpinned (pins := [])).weak (by rw [← same, wipe_length]) (fun j v z => ?_), turn.keep _ _ _ at7 fun b hb o z => (keep b hb o z).1, fun b hb => ?_, w'⟩
      · rw [← same] at z
        exact (wipe_some z).1
      · obtain ⟨ob, z, _⟩ := turn.obj _ _ at7 b hb
        exact (keep b hb ob z).2
  exact codeAny_compStart_dict loop (turn.self X.A 0 _ _ _ at4 loop)
end
end Pur

/-! Pur23: len({key: True for ..}). -/
namespace Pur
open PySem PySem.Spec PyProof.Rows L2

section
variable {p : Pg} {cal : Cal} {K : PySem.W.Frag} {pp : Bool} {fp fe fe2 fr fk : List Addr} {G H G1 G2 H2 G3 H3 : Hp} {ρ ρ1 ρ2 : En} {σ σ1 σ2 : St} {D0 : Addr} {kp : D} {kv : V}
/-- the turns of a loop, by any account of what stands -/
theorem turnsG {L : Hp → Hp → En → St → List Addr → List D → Prop} {t : T} {vs : List Nat} {J : It} {items zs : List D} {f : D → En → Option (List D × En)} {g : En → Option (List D × En)} {ρ0 : En} {G0 H0 : Hp} {ys0 : List D} {B : (Hp → Prop) → St → Hp → Prop} {Ed : Hp → Prop}
    (hpre : ∀ {G2 H2 ρ σ fe ys}, L G2 H2 ρ σ fe ys → Pre K G2 H2 ρ σ fe ∧ Rep K G2 H2 kp kv fk)
    (hstep : ∀ {G2 H2 G3 H3 ρ σ fe ys}, L G2 H2 ρ σ fe ys → Ev [] G2 H2 G3 H3 → L G3 H3 ρ σ fe ys)
    (hbind : ∀ {G2 H2 ρ σ fe ys ρ1 σ1 fe2}, L G2 H2 ρ σ fe ys → EnvP K G2 H2 ρ1 σ1 fe2 → fe2.Nodup → (∀ a ∈ fe2, a ∈ fe) → L G2 H2 ρ1 σ1 fe2 ys)
    (wk : Wk K J items kp kv fk) (htg : ∀ j ∈ tgs t, j ∈ vs) (hf : ∀ x ρ, f x ρ = match bindT t x ρ with
      | none => none
      | some ρ2 => g ρ2)
    (body : ∀ (Nx : Hp → Prop) o ρ2 ρ3 G2 H2 σ2 fe2 ys1, wipe σ2 vs = wipe σ vs → L G2 H2 ρ2 σ2 fe2 ys1 → g ρ2 = some (o, ρ3) → (∃ rest, ys1 ++ o ++ rest = ys0 ++ zs) →
      (∀ G3 H3 fe3, L G3 H3 ρ3 (wipe σ vs) fe3 (ys1 ++ o) → Nx H3) → B Nx σ2 H2)
    (L0 : L G0 H0 ρ0 (wipe σ vs) fe ys0) (hl : lcL f items ρ0 = some (zs, ρ2))
    (k : ∀ G' H' fe', L G' H' ρ2 (wipe σ vs) fe' (ys0 ++ zs) → Ed H') :
    ∃ W : Nat → Nat → Hp → Prop, (∃ m, W 0 m H0) ∧ ∀ i m H, W i m H → (J.stop i H ∧ Ed H) ∨ (J.go i H ∧ ∃ Nx : Hp → Prop, (∀ H', Nx H' → ∃ m', m' < m ∧ W (i + 1) m' H') ∧ ∀ x H', J.yld i H x H' → tG K t x (wipe σ vs) H' fun σ2 H2 => wipe σ2 vs = wipe σ vs ∧ B Nx σ2 H2) := by
  let S : Nat → Hp → Prop := fun i H2 => ∃ G2 ρx fe2 ys1 zs1, L G2 H2 ρx (wipe σ vs) fe2 ys1 ∧ lcL f (items.drop i) ρx = some (zs1, ρ2) ∧ ys1 ++ zs1 = ys0 ++ zs
  refine ⟨fun i m H2 => m = items.length - i ∧ i ≤ items.length ∧ S i H2, ⟨items.length, by simp, Nat.zero_le _, G0, ρ0, fe, ys0, zs, L0, hl, rfl⟩, ?_⟩
  rintro i m H2 ⟨rfl, hi, G2, ρx, fe2, ys1, zs1, L1, hlc, hys⟩
  obtain ⟨P, h5⟩ := hpre L1
  by_cases hlt : i < items.length
  · refine .inr ⟨wk.go i G2 H2 hlt P.s h5, S (i + 1), fun H' hS => ⟨items.length - (i + 1), by omega, rfl, hlt, hS⟩, fun x H3 hy => ?_⟩
    obtain ⟨G3, dx, E3, hdx, rdx⟩ := wk.yld i G2 H2 x H3 hlt P.s h5 hy
    have L3 := hstep L1 E3
    have P3 := (hpre L3).1
    have hdrop : items.drop i = dx :: items.drop (i + 1) := by
      rw [List.drop_eq_getElem_cons hlt]
      congr 1
      have := List.getElem?_eq_getElem hlt
      rw [hdx] at this
      exact (Option.some.inj this).symm
    rw [hdrop] at hlc
    simp only [lcL] at hlc
    rw [hf] at hlc
    cases hb : bindT t dx ρx with
    | none => rw [hb] at hlc; cases hlc
    | some ρ3 =>
      rw [hb] at hlc
      cases hg : g ρ3 with
      | none => simp only [hg] at hlc; cases hlc
      | some oo =>
        obtain ⟨o, ρ5⟩ := oo
        simp only [hg] at hlc
        split at hlc
        · cases hlc
        · rename_i zs' ρ6 hl2
          cases hlc
          refine ⟨G3, fe2, [], ρx, dx, ρ3, P3.s, P3.e, by simpa using P3.n, rdx, hb, fun σ3 fe3 e3 n3 m3 ag len => ?_⟩
          have hw : wipe σ3 vs = wipe σ vs := wipe_eq len fun j hj => ag j fun z => hj (htg j z)
          exact ⟨hw, body _ o ρ3 ρ5 G3 H3 σ3 fe3 ys1 hw (hbind L3 e3 n3 fun a h => by simpa using m3 a h) hg ⟨zs', by rw [List.append_assoc]; exact hys⟩ fun G4 H4 fe4 L4 => ⟨G4, ρ5, fe4, ys1 ++ o, zs', L4, hl2, by rw [List.append_assoc]; exact hys⟩⟩
  · have e : i = items.length := by omega
    subst e
    simp only [List.drop_length, lcL] at hlc
    cases hlc
    rw [List.append_nil] at hys
    subst hys
    exact .inl ⟨wk.stop G2 H2 P.s h5, k G2 H2 fe2 L1⟩

/-! ### keys -/
theorem addK_snoc {κ : Type} [DecidableEq κ] (k : κ) : ∀ (ks seen : List κ), addK seen (ks ++ [k]) = if k ∈ addK seen ks then addK seen ks else addK seen ks ++ [k]
  | [], seen => by simp only [List.nil_append, addK]; congr
  | x :: xs, seen => by simp only [List.cons_append, addK]; exact addK_snoc k xs _
theorem addK_len {κ : Type} [DecidableEq κ] : ∀ (ks seen : List κ), (addK seen ks).length ≤ seen.length + ks.length
  | [], seen => by simp [addK]
  | x :: xs, seen => by
    simp only [addK]
    refine Nat.le_trans (addK_len xs _) ?_
    split
    · simp
    · simp; omega
theorem keys_put {κ : Type} [DecidableEq κ] (kvs : List (κ × V)) (k : κ) (v : V) : (putK kvs k v).map (·.1) = if k ∈ kvs.map (·.1) then kvs.map (·.1) else kvs.map (·.1) ++ [k] := by
  unfold putK
  by_cases h : (kvs.any fun kv => decide (kv.1 = k)) = true
  · rw [if_pos h, if_pos (by simpa using h), List.map_map]
    congr 1
    funext kv
    simp only [Function.comp]
    split <;> rfl
  · rw [if_neg h, if_neg (by simpa using h)]
    simp
theorem kOfL_snoc {y : D} {k : L2.Key} (hk : kOf y = some k) : ∀ {ys : List D} {ks : List L2.Key}, kOfL ys = some ks → kOfL (ys ++ [y]) = some (ks ++ [k])
  | [], ks, h => by simp only [kOfL, Option.some.injEq] at h; subst h; simp [kOfL, hk]
  | x :: xs, ks, h => by
    simp only [kOfL] at h
    cases hx : kOf x with
    | none => rw [hx] at h; cases h
    | some k0 =>
      rw [hx] at h
      obtain ⟨r, h1, h2⟩ := Option.map_eq_some_iff.mp h
      subst h2
      simp [kOfL, hx, kOfL_snoc hk h1]
theorem ksT_snoc {y : D} {k : List L2.Key} (hk : kOfT y = some k) : ∀ {ys : List D} {ks : List (List L2.Key)}, ksT ys = some ks → ksT (ys ++ [y]) = some (ks ++ [k])
  | [], ks, h => by simp only [ksT, Option.some.injEq] at h; subst h; simp [ksT, hk]
  | x :: xs, ks, h => by
    simp only [ksT] at h
    cases hx : kOfT x with
    | none => rw [hx] at h; cases h
    | some k0 =>
      rw [hx] at h
      obtain ⟨r, h1, h2⟩ := Option.map_eq_some_iff.mp h
      subst h2
      simp [ksT, hx, ksT_snoc hk h1]
theorem kOfL_all : ∀ {ys : List D} {ks : List L2.Key}, kOfL ys = some ks → (∀ y ∈ ys, (kOf y).isSome = true) ∧ ks.length = ys.length
  | [], ks, h => by simp only [kOfL, Option.some.injEq] at h; subst h; exact ⟨(fun y h => nomatch h), rfl⟩
  | x :: xs, ks, h => by
    simp only [kOfL] at h
    cases hx : kOf x with
    | none => rw [hx] at h; cases h
    | some k0 =>
      rw [hx] at h
      obtain ⟨r, h1, h2⟩ := Option.map_eq_some_iff.mp h
      subst h2
      obtain ⟨i1, i2⟩ := kOfL_all h1
      exact ⟨fun y hy => (List.mem_cons.mp hy).elim (fun e => by rw [e, hx]; rfl) (i1 y), by simp [i2]⟩
theorem ksT_all : ∀ {ys : List D} {ks : List (List L2.Key)}, ksT ys = some ks → (∀ y ∈ ys, (kOfT y).isSome = true) ∧ ks.length = ys.length
  | [], ks, h => by simp only [ksT, Option.some.injEq] at h; subst h; exact ⟨(fun y h => nomatch h), rfl⟩
  | x :: xs, ks, h => by
    simp only [ksT] at h
    cases hx : kOfT x with
    | none => rw [hx] at h; cases h
    | some k0 =>
      rw [hx] at h
      obtain ⟨r, h1, h2⟩ := Option.map_eq_some_iff.mp h
      subst h2
      obtain ⟨i1, i2⟩ := ksT_all h1
      exact ⟨fun y hy => (List.mem_cons.mp hy).elim (fun e => by rw [e, hx]; rfl) (i1 y), by simp [i2]⟩
theorem kOf_v {y : D} {v : V} {k : L2.Key} (hk : kOf y = some k) (r : Rep K G H y v fr) : v = kV k := by
  cases y <;> simp only [kOf, Option.some.injEq, reduceCtorEq] at hk
  · subst hk; simp only [Rep] at r; exact r.1
  · subst hk; simp only [Rep] at r; exact r.1
theorem kOfL_v : ∀ {ys : List D} {vs : List V} {ks : List L2.Key} {fr : List Addr}, kOfL ys = some ks → RepL K G H ys vs fr → vs = ks.map kV
  | [], vs, ks, fr, h, r => by simp only [kOfL, Option.some.injEq] at h; subst h; simp only [RepL] at r; exact r.1
  | x :: xs, vs, ks, fr, h, r => by
    simp only [kOfL] at h
    cases hx : kOf x with
    | none => rw [hx] at h; cases h
    | some k0 =>
      rw [hx] at h
      obtain ⟨r', h1, h2⟩ := Option.map_eq_some_iff.mp h
      subst h2
      simp only [RepL] at r
      obtain ⟨v, vs', f1, f2, rfl, r1, r2, _⟩ := r
      rw [kOf_v hx r1, kOfL_v h1 r2]
      rfl
def AccK (ys : List D) (o : HO) : Prop := ∃ kvs ks, o = .dK kvs ∧ kOfL ys = some ks ∧ kvs.map (·.1) = addK [] ks
def AccT (ys : List D) (o : HO) : Prop := ∃ kvs ks, o = .dT kvs ∧ ksT ys = some ks ∧ kvs.map (·.1) = addK [] ks
def PutOk (K : PySem.W.Frag) (acc : List D → HO → Prop) (ok : D → Bool) : Prop := ∀ (b : Bool) (ys : List D) (y : D) (o : HO) (v : V) (fr : List Addr) (G H : Hp) (D0 : Addr), acc ys o → ok y = true → Same G H → Rep K G H y v fr → H D0 = some o → ys.length < sizeLine →
  fr = [] ∧ ∃ o', DPut H D0 v (.bl b) (upd H D0 o') ∧ acc (ys ++ [y]) o'
theorem putK_ok : PutOk K AccK fun y => (kOf y).isSome := by
  intro b ys y o v fr G H D0 ⟨kvs, ks, e1, e2, e3⟩ hok s r hD hl
  subst e1
  obtain ⟨k, hk⟩ := Option.isSome_iff_exists.mp hok
  have hlen : kvs.length < sizeLine := by
    have z1 := addK_len ks []
    rw [← e3, List.length_map, (kOfL_all e2).2] at z1
    simp at z1
    omega
  have hv := kOf_v hk r
  subst hv
  refine ⟨?_, .dK (putK kvs k (.bl b)), DPut.k hD hlen, _, _, rfl, kOfL_snoc hk e2, ?_⟩
  · cases y <;> simp only [kOf, Option.some.injEq, reduceCtorEq] at hk <;> (simp only [Rep] at r; exact r.2)
  · rw [keys_put, addK_snoc, e3]
theorem kOfL_fp : ∀ {ys : List D} {vs : List V} {ks : List L2.Key} {fr : List Addr}, kOfL ys = some ks → RepL K G H ys vs fr → fr = []
  | [], vs, ks, fr, h, r => by simp only [RepL] at r; exact r.2
  | x :: xs, vs, ks, fr, h, r => by
    simp only [kOfL] at h
    cases hx : kOf x with
    | none => rw [hx] at h; cases h
    | some k0 =>
      rw [hx] at h
      obtain ⟨r', h1, h2⟩ := Option.map_eq_some_iff.mp h
      simp only [RepL] at r
      obtain ⟨v, vs', f1, f2, rfl, r1, r2, rfl⟩ := r
      rw [kOfL_fp h1 r2]
      cases x <;> simp only [kOf, Option.some.injEq, reduceCtorEq] at hx <;> (simp only [Rep] at r1; rw [r1.2]; rfl)
theorem putT_ok : PutOk K AccT fun y => (kOfT y).isSome := by
  intro b ys y o v fr G H D0 ⟨kvs, ks, e1, e2, e3⟩ hok s r hD hl
  subst e1
  obtain ⟨k, hk⟩ := Option.isSome_iff_exists.mp hok
  have hlen : kvs.length < sizeLine := by
    have z1 := addK_len ks []
    rw [← e3, List.length_map, (ksT_all e2).2] at z1
    simp at z1
    omega
  cases y with
  | tup xs =>
    simp only [kOfT] at hk
    simp only [Rep] at r
    obtain ⟨a, vs, rfl, h1, h2⟩ := r
    have hv := kOfL_v hk h2
    subst hv
    refine ⟨kOfL_fp hk h2, .dT (putK kvs k (.bl b)), DPut.t hD (s _ _ h1) hlen, _, _, rfl, ksT_snoc (show kOfT (.tup xs) = some k from hk) e2, ?_⟩
    rw [keys_put, addK_snoc, e3]
  | _ => simp only [kOfT, reduceCtorEq] at hk

/-- in the middle of making a dict at D0 -/
def DS (K : PySem.W.Frag) (pp : Bool) (fp : List Addr) (G H G1 : Hp) (D0 : Addr) (kp : D) (kv : V) (fk : List Addr) (acc : List D → HO → Prop) (G2 H2 : Hp) (ρ : En) (σ : St) (fe : List Addr) (ys : List D) : Prop :=
  ∃ o, Post K pp fp G H G2 H2 (D0 :: fk) ρ σ fe ∧ H2 D0 = some o ∧ acc ys o ∧ G2 D0 = none ∧ Rep K G2 (del H2 D0) kp kv fk ∧ Same G1 G2
variable {acc : List D → HO → Prop} {ys : List D}
theorem DS.ne {o : HO} (h1 : H2 D0 = some o) (h3 : Rep K G2 (del H2 D0) kp kv fk) : ∀ x ∈ D0 :: fk, H2 x ≠ none := fun x hx => by
  rcases List.mem_cons.mp hx with z | z
  · rw [z, h1]; simp
  · exact h3.undel.ne x z
theorem DS.bind (L : DS K pp fp G H G1 D0 kp kv fk acc G2 H2 ρ σ fe ys) (e : EnvP K G2 H2 ρ1 σ1 fe2) (n : fe2.Nodup) (h : ∀ a ∈ fe2, a ∈ fe) : DS K pp fp G H G1 D0 kp kv fk acc G2 H2 ρ1 σ1 fe2 ys := by
  obtain ⟨o, P, r⟩ := L
  exact ⟨o, P.env' e n h, r⟩
theorem DS.step (L : DS K pp fp G H G1 D0 kp kv fk acc G2 H2 ρ σ fe ys) (e : Ev [] G2 H2 G3 H3) : DS K pp fp G H G1 D0 kp kv fk acc G3 H3 ρ σ fe ys := by
  obtain ⟨o, P, h1, h2, h3, h5, h7⟩ := L
  have hG3 : G3 D0 = none := by rw [(e.k D0 (by rw [h1]; simp) (fun z => nomatch z)).2]; exact h3
  exact ⟨o, P.step (DS.ne h1 h5) e P.ndr fun x h => .inl h, e.same _ _ h1, h2, hG3, h5.ev (e.del hG3) (fun a _ z => nomatch z) (.inr rfl), h7.trans e.g⟩
theorem DS.put {v : V} {y : D} {ok : D → Bool} {b : Bool} (hp : PutOk K acc ok) (L : DS K pp fp G H G1 D0 kp kv fk acc G2 H2 ρ σ fe ys) (P' : Post K true fe G2 H2 G3 H3 fr ρ1 σ fe2) (r : Rep K G3 H3 y v fr) (hok : ok y = true) (hl : ys.length < sizeLine) :
    ∃ H4, DPut H3 D0 v (.bl b) H4 ∧ DS K pp fp G H G1 D0 kp kv fk acc G3 H4 ρ1 σ fe2 (ys ++ [y]) := by
  obtain ⟨o, P, h1, h2, h3, h5, h7⟩ := L
  have e := P'.pu rfl
  have hG3 : G3 D0 = none := by rw [(e.k D0 (by rw [h1]; simp) (fun z => nomatch z)).2]; exact h3
  have k1 := e.same _ _ h1
  obtain ⟨rfl, o', dp, ac⟩ := hp b ys y o v fr G3 H3 D0 h2 hok P'.ev.h r k1 hl
  have PP := (P.trans (DS.ne h1 h5) P').imp (q := pp) fun z => by rw [z]; rfl
  rw [List.append_nil] at PP
  refine ⟨_, dp, o', PP.wr hG3, upd_same, ac, hG3, ?_, h7.trans e.g⟩
  rw [del_upd]
  exact h5.ev (e.del hG3) (fun a _ z => nomatch z) (.inr rfl)
theorem DS.wiped (L : DS K pp fp G H G1 D0 kp kv fk acc G2 H2 ρ σ fe ys) (vs : List Nat) : ∃ fe', DS K pp fp G H G1 D0 kp kv fk acc G2 H2 (wipeD ρ vs) (wipe σ vs) fe' ys := by
  obtain ⟨o, P, _⟩ := id L
  obtain ⟨g1, g2, e1, e2⟩ := P.env.wipeD vs
  exact ⟨g2, L.bind (EnvP.wipeS e1 vs fun v h => h) (List.nodup_append.mp (e2.nodup_iff.mpr P.pre.n)).2.1 fun a h => e2.mem_iff.mp (List.mem_append_right _ h)⟩
end

section
variable {p : Pg} {cal : Cal} {X : Cx} {a b c d key it : E}
theorem uq_read {K : PySem.W.Frag} {t : T} {vs : List Nat} {bv : Bool} {σ : St} {H : Hp} {Q Q' : VK} (hQ : ∀ (D0 : Addr) (n : Nat) H', ((∃ kvs, H' D0 = some (.dK kvs) ∧ kvs.length = n) ∨ ∃ kvs, H' D0 = some (.dT kvs) ∧ kvs.length = n) → Q (.int (n : Nat)) H' → Q' (.ref D0) H') (h : tE p cal K (.uniq key t it vs) σ H Q) :
    tUq (tI p cal K it) (tG K t) (tE p cal K key) bv vs σ H Q' := by
  obtain ⟨G, fp, ρ, w, ρ', hp, ev, k⟩ := h
  simp only [evE] at ev
  split at ev
  · cases ev
  · rename_i d0 ρ1 e1
    split at ev
    · cases ev
    · rename_i items kp e2
      split at ev
      · cases ev
      · rename_i hc
        simp only [Bool.or_eq_true, not_or, Bool.not_eq_true, Bool.not_eq_false', decide_eq_true_eq] at hc
        obtain ⟨⟨hc1, hc2⟩, hc3⟩ := hc
        split at ev
        · rename_i ys ρ2 hl
          obtain ⟨n, hn, e3⟩ := Option.map_eq_some_iff.mp ev
          cases e3
          have eI : evI p.gs cal it ρ = some (items, kp, ρ1) := by unfold evI; rw [e1]; simp only [e2]
          refine ⟨G, fp, ρ, items, kp, ρ1, hp, eI, fun J kv G1 H1 fk fe P1 rk wk => fun D0 hD => ?_⟩
          obtain ⟨g1, g2, e1', e2'⟩ := P1.env.wipeD vs
          have nfe : fe.Nodup := P1.pre.n
          have hlen : ys.length ≤ sizeLine := by
            have key : ∀ {f : D → En → Option (List D × En)} (hf : ∀ x ρ o ρ', f x ρ = some (o, ρ') → o.length = 1) (xs : List D) (ρ : En) (ys : List D) (ρ' : En), lcL f xs ρ = some (ys, ρ') → ys.length = xs.length := by
              intro f hf xs
              induction xs with
              | nil => intro ρ ys ρ' h; simp only [lcL] at h; cases h; rfl
              | cons x xs ih =>
                intro ρ ys ρ' h
                simp only [lcL] at h
                split at h
                · cases h
                · rename_i o ρ1 h1
                  split at h
                  · cases h
                  · rename_i zs ρ2 h2
                    cases h
                    simp [hf _ _ _ _ h1, ih _ _ _ h2]; omega
            rw [key ?_ items _ _ _ hl]
            · have : sizeLine = 16777216 := sizeLine_eq
              omega
            · intro x ρ o ρ' h
              split at h
              · cases h
              · split at h
                · cases h; rfl
                · cases h
          have main : ∀ (acc : List D → HO → Prop) (ok : D → Bool) (o0 : HO), PutOk K acc ok → acc [] o0 → (o0 = .dK [] ∨ o0 = .dT []) → (∀ y ∈ ys, ok y = true) → (∀ o, acc ys o → (∃ kvs, o = .dK kvs ∧ kvs.length = n) ∨ ∃ kvs, o = .dT kvs ∧ kvs.length = n) →
              ∃ o : HO, (o = .dK [] ∨ o = .dT []) ∧ ∃ W : Nat → Nat → Hp → Prop, (∃ m, W 0 m (upd H1 D0 o)) ∧ ∀ i m H, W i m H → (J.stop i H ∧ Q' (.ref D0) H) ∨
                (J.go i H ∧ ∃ Nx : Hp → Prop, (∀ H', Nx H' → ∃ m', m' < m ∧ W (i + 1) m' H') ∧ ∀ x H', J.yld i H x H' → tG K t x (wipe σ vs) H' fun σ2 H2 => wipe σ2 vs = wipe σ vs ∧ tE p cal K key σ2 H2 fun y H4 => ∃ H5, DPut H4 D0 y (.bl bv) H5 ∧ Nx H5) := by
            intro acc ok o0 hput h0 ho hall hend
            have P2 := (P1.env' (EnvP.wipeS e1' vs fun v h => h) (List.nodup_append.mp (e2'.nodup_iff.mpr nfe)).2.1 fun a h => e2'.mem_iff.mp (List.mem_append_right _ h)).imp (q := isP key && isP it) fun z => by
              simp only [Bool.and_eq_true] at z
              exact z.2
            have P3 := P2.more (o := o0) rk.ne hD
            have L0 : DS K (isP key && isP it) fp G H G1 D0 kp kv fk acc G1 (upd H1 D0 o0) (wipeD ρ1 vs) (wipe σ vs) g2 [] :=
              ⟨o0, P3, upd_same, h0, Same.none P1.ev.h hD, by rw [del_new hD]; exact rk, Same.refl _⟩
            refine ⟨o0, ho, turnsG (L := DS K (isP key && isP it) fp G H G1 D0 kp kv fk acc) (K := K) (kp := kp) (kv := kv) (fk := fk) (Ed := Q' (.ref D0)) (B := fun Nx σ2 H2 => tE p cal K key σ2 H2 fun y H4 => ∃ H5, DPut H4 D0 y (.bl bv) H5 ∧ Nx H5)
              (fun L => let ⟨_, P, _, _, _, r, _⟩ := L; ⟨P.pre, r.undel⟩) (fun L e => L.step e) (fun L e n h => L.bind e n h) wk (fun j hj => by simpa using List.all_eq_true.mp hc3 j hj) (fun x ρ => rfl) ?_ L0 hl ?_⟩
            · intro Nx o ρa ρb G2 H2 σ2 fe2 ys1 hw L hg hrest hn2
              split at hg
              · rename_i y ρ3 ek
                cases hg
                obtain ⟨rest, hrest⟩ := hrest
                rw [List.nil_append] at hrest
                have hy : ok y = true := hall y (by rw [← hrest]; simp)
                have hl1 : ys1.length < sizeLine := by
                  have := congrArg List.length hrest
                  simp at this
                  omega
                obtain ⟨_, PL, _⟩ := id L
                refine ⟨G2, fe2, ρa, y, ρ3, PL.pre, ek, fun v G3 H3 fr3 fe3 P3 r3 => ?_⟩
                obtain ⟨H4, dp, L4⟩ := L.put (b := bv) hput (P3.imp fun _ => hc1) r3 hy hl1
                obtain ⟨fe5, L5⟩ := L4.wiped vs
                rw [hw] at L5
                exact ⟨H4, dp, hn2 _ _ _ L5⟩
              · cases hg
            · intro G' H' fe' L'
              obtain ⟨o, P, q1, q2, q3, q5, q7⟩ := L'
              rw [List.nil_append] at q2
              have PL := P.less (DS.ne q1 q5) .nil fun x h => nomatch h
              have lenσ : ρ2.length = σ.length := by rw [PL.env.length, wipe_length]
              have eσ : EnvP K G' H' ρ2 σ fe' := PL.env.unset (wipe_length σ vs).symm fun j => by
                by_cases hj : j ∈ vs ∧ j < σ.length
                · refine .inl ?_
                  cases hq : ρ2[j]? with
                  | none => exact absurd (List.getElem?_eq_none_iff.mp hq) (by omega)
                  | some o =>
                    cases o with
                    | none => rfl
                    | some dd =>
                      obtain ⟨v, _, _, z, _⟩ := PL.env.take hq
                      rw [wipe_get, if_pos hj] at z
                      cases z
                · refine .inr ?_
                  rw [wipe_get, if_neg hj]
              obtain ⟨f1, f2, r1, r2⟩ := restore_ok P1.env q7 eσ vs
              refine hQ D0 n H' ?_ (k _ G' H' [] f2 (PL.env' r1 (List.nodup_append.mp (r2.nodup_iff.mpr PL.pre.n)).2.1 fun a h => r2.mem_iff.mp (List.mem_append_right _ h)) (by simp [Rep]))
              rcases hend o q2 with ⟨kvs, z1, z2⟩ | ⟨kvs, z1, z2⟩
              · exact .inl ⟨kvs, by rw [q1, z1], z2⟩
              · exact .inr ⟨kvs, by rw [q1, z1], z2⟩
          unfold uniqS at hn
          split at hn
          · rename_i ks hks
            cases hn
            exact main AccK _ (.dK []) putK_ok ⟨[], [], rfl, rfl, rfl⟩ (.inl rfl) (kOfL_all hks).1 fun o ⟨kvs, ks', z1, z2, z3⟩ => by
              rw [hks] at z2
              cases z2
              exact .inl ⟨kvs, z1, by rw [← z3, List.length_map]⟩
          · split at hn
            · rename_i ks hks
              cases hn
              exact main AccT _ (.dT []) putT_ok ⟨[], [], rfl, rfl, rfl⟩ (.inr rfl) (ksT_all hks).1 fun o ⟨kvs, ks', z1, z2, z3⟩ => by
                rw [hks] at z2
                cases z2
                exact .inr ⟨kvs, z1, by rw [← z3, List.length_map]⟩
            · cases hn
        · cases ev
theorem snd_uniq {t : T} {vs : List Nat} (hk : Snd p cal key) (hi : Snd p cal it) : Snd p cal (.uniq key t it vs) := by
  have key : ∀ {cc n X}, Good p cal cc n X → ∀ {ast}, chkE p cc (.uniq key t it vs) ast = true → PE X ast (tE p cal X.K (.uniq key t it vs)) ∧ ∀ whole, isTrue ast X.env whole = (do let v ← whole; standAt ast.pos; holding [v] (truthy v)) := by
    intro cc n X g ast h
    simp only [chkE] at h
    split at h
    · rename_i x px l bv bj bp tg iter scope pos pos2
      simp only [Bool.and_eq_true, Bool.not_eq_true', decide_eq_true_eq] at h
      obtain ⟨⟨⟨⟨⟨⟨rfl, h1⟩, h2⟩, h3⟩, h4⟩, h5⟩, h6⟩ := h
      obtain ⟨o1, o2⟩ := okOwn_ok g h2
      have h3 : chkI p cc it iter tg = true := h3
      have hu := g.hu
      have pg : ∀ (s : Shared) (H : Hp) (C : Addr) (cl : List (Str × Addr)) (fp : List Addr), PG (X.blk s H scope (compEnvC scope cl C X.env) fp) tg (tG X.K t) := fun s H C cl fp => snd_T (g.blk s H scope C cl fp) h5
      have pk : ∀ (s : Shared) (H : Hp) (C : Addr) (cl : List (Str × Addr)) (fp : List Addr), PE (X.blk s H scope (compEnvC scope cl C X.env) fp) l (tE p cal X.K key) := fun s H C cl fp => hk.pe (g.blk s H scope C cl fp) h6
      have q1 := pe_uq (bv := bv) (bj := bj) (bp := bp) (pos := pos) g.calm (by omega) g.nodup (hi.pi g h3) o2 pg pk (noSet h4)
      rw [o1] at q1
      have hl := (call_lenD (X := X)).or call_len_dT
      refine ⟨(biF (g.nb "len" (by decide +kernel)) hl (by decide +kernel) (by decide +kernel) (by decide +kernel) _ _ _ _ _ (g.glo h1).1 (pa_cons q1 pa_nil rfl) rfl).imp fun σ H Q q => ?_, fun _ => rfl⟩
      show tUq (tI p cal X.K it) (tG X.K t) (tE p cal X.K key) bv vs σ H fun v H1 => (∃ a kvs, [v] = [V.ref a] ∧ H1 a = some (HO.dK kvs) ∧ Q (V.int kvs.length) H1) ∨ rLenT [v] H1 Q
      refine uq_read (bv := bv) (fun D0 n H' hh qq => ?_) q
      rcases hh with ⟨kvs, z1, rfl⟩ | ⟨kvs, z1, rfl⟩
      · exact .inl ⟨D0, kvs, rfl, z1, qq⟩
      · exact .inr ⟨D0, kvs, rfl, z1, qq⟩
    · cases h
  exact .plain ⟨fun _ _ => rfl, fun _ _ _ => rfl, rfl, fun _ => rfl, fun d => by cases d <;> rfl⟩ (fun g _ h => (key g h).1) fun g _ h => pt_of (key g h).1 (key g h).2
/-- sorted of a dict whose keys are ints, any number of them -/
theorem cr_sortedKeys {X : Cx} (hcalm : X.calm = true) : CallR X (.builtin "sorted") (fun xs H Q => ∃ (a : Addr) (kvs : List (L2.Key × V)) (ks : List Int), xs = [V.ref a] ∧ H a = some (.dK kvs) ∧ kvs.map (·.1) = ks.map Sum.inl ∧
    ∀ p, H p = none → Q (.ref p) (upd H p (.lst ((isort ks).map V.int)))) := by
  rintro pins s σ H xs us Q I r ⟨a, kvs, ks, rfl, hd, hks, q⟩
  obtain ⟨u, rfl, rx⟩ := vals1 r
  cases rx
  obtain ⟨z, lo, vs, rel, dd⟩ := dk_rd I.hok (Rd.of hd)
  obtain ⟨ep, hat⟩ := dd.dictAt
  have hkeys : vs.map (·.1) = ks.map Sum.inl := rel.keys.symm.trans hks
  have hl : vs.length = ks.length := by
    have e := congrArg List.length hkeys
    simpa using e
  have hlk : kvs.length = vs.length := by
    have e := congrArg List.length rel.keys
    simpa using e
  have h16 : vs.length ≤ sizeLine := by rw [← hlk]; exact z
  refine Calls.call_function_entry PyProof.Rows.kind_sorted PyProof.Rows.plain_sorted PyProof.Rows.entry_sorted (PyProof.Rows.args_sorted1 _) ?_
  unfold Builtin.«sorted»
  refine wpAny_bind (m := checkCount "sorted" 1 1 _) (wpAny_pure ?_)
  refine wpAny_bind (PySem.W.kdu_collect (A := X.A.in1) (PySem.W.kdl_dict (knd := mixKind X.prog X.w) (kvs := vs) (ep := ep) lo) (I.ok.hd hcalm) hat h16 fun h' tk acc hk hacc => ?_)
  have hal : acc.toList.length = ks.length := by rw [Array.length_toList, hacc.1, hl]
  have hS : IntsAre acc.toList ks := ints_each hal fun j v e => by
    obtain ⟨k, x, e1, e2⟩ := hacc.2 j v (by rw [← Array.getElem?_toList]; exact e)
    have e3 : (vs.map (·.1))[j]? = some k := by rw [List.getElem?_map, e1]; rfl
    rw [hkeys, List.getElem?_map] at e3
    obtain ⟨y, e4, e5⟩ := Option.map_eq_some_iff.mp e3
    subst e5
    rcases keyIs_shape (show keyIs (Sum.inl y) v = true from e2) with ⟨i, t, ek, ev⟩ | ⟨w, t, ek, ev⟩
    · cases ek
      exact ⟨y, t, e4, ev⟩
    · cases ek
  have I1 : Inv X pins σ H { s with heap := h', toks := tk } := I.kept hk
  have hsz : acc.toList.length ≤ sizeLine := by rw [hal, ← hl]; exact h16
  refine wpAny_bind (wpAny_newList ?_ hsz)
  have hoL : (h'.push (seqObj "list" acc.toList.toArray 0)).get? h'.objs.size = some (seqObj "list" acc.toList.toArray 0) := Heap.get?_push_size _ rfl
  show wpAny _ _ _ _ _ { s with heap := h'.push (seqObj "list" acc.toList.toArray 0), toks := tk }
  refine wpAny_bind (wpAny_holding (wpAny_call_entry PyProof.Rows.slot_list_sort ⟨_, hoL, rfl⟩ PyProof.Rows.entry_list_sort
    (SrtO.list_sort_ord SrtO.swo_int (s := { s with heap := h'.push (seqObj "list" acc.toList.toArray 0), toks := tk }) hoL hsz (fun h2 => SrtO.ints_sortable hS h2) fun out h1 h2 => ⟨.none, rfl, ?_⟩) (PyProof.Rows.args_list_sort _)))
  obtain ⟨k1, k2, k3⟩ := SrtO.ints_out hS h1 h2
  obtain ⟨e', he'⟩ := PyProof.Rows.sortedHeap_at (vs := acc.toList) (out := out.toArray) hoL
  have eqv : out.map SrtO.iv = isort ks := sorted_one (k2.trans (isort_perm ks).symm) k3 (isort_sorted ks)
  have hlen : ((isort ks).map V.int).length ≤ sizeLine := by
    rw [List.length_map, (isort_perm ks).length_eq, ← hal]
    exact hsz
  rw [eqv] at k1
  refine wpAny_pure ⟨_, rfl, .ref h'.objs.size, upd H h'.objs.size (.lst ((isort ks).map V.int)), I1.laid (t' := tk) (fun b u e => ?_) (Nat.le_refl _)
    (show ObjOk X.prog X.w _ _ _ (.lst ((isort ks).map V.int)) from ⟨hlen, out, e', vals_of_ints k1, he'⟩), rfl, q _ (I1.hok.fresh (Nat.le_refl _))⟩
  have hb : b < h'.objs.size := Heap.lt_size e
  rw [PyProof.Rows.sortedHeap_old (Nat.ne_of_lt hb) (by rw [size_push']; exact Nat.lt_succ_of_lt hb)]
  exact Heap.get?_push_of_some _ e
theorem us_ints {K : PySem.W.Frag} {G H : Hp} : ∀ ns : List Int, RepL K G H (ns.map .int) (ns.map V.int) []
  | [] => by simp [RepL]
  | n :: ns => by
    simp only [List.map_cons, RepL]
    exact ⟨.int n, _, [], [], rfl, by simp [Rep], us_ints ns, rfl⟩
theorem keysInt_ok : ∀ {ks : List L2.Key} {ns : List Int}, keysInt ks = some ns → ks = ns.map Sum.inl
  | [], ns, h => by simp only [keysInt, Option.some.injEq] at h; rw [← h]; rfl
  | .inl i :: ks, ns, h => by
    simp only [keysInt] at h
    obtain ⟨ms, h1, rfl⟩ := Option.map_eq_some_iff.mp h
    rw [keysInt_ok h1]
    rfl
  | .inr _ :: ks, ns, h => by simp [keysInt] at h
theorem us_read {K : PySem.W.Frag} {t : T} {vs : List Nat} {bv : Bool} {σ : St} {H : Hp} {Q Q' : VK} (hQ : ∀ (D0 : Addr) (n : List Int) H', (∃ kvs, H' D0 = some (.dK kvs) ∧ kvs.map (·.1) = n.map Sum.inl) → (∀ p, H' p = none → Q (.ref p) (upd H' p (.lst ((isort n).map V.int)))) → Q' (.ref D0) H') (h : tE p cal K (.usort key t it vs) σ H Q) :
    tUq (tI p cal K it) (tG K t) (tE p cal K key) bv vs σ H Q' := by
  obtain ⟨G, fp, ρ, w, ρ', hp, ev, k⟩ := h
  simp only [evE] at ev
  split at ev
  · cases ev
  · rename_i d0 ρ1 e1
    split at ev
    · cases ev
    · rename_i items kp e2
      split at ev
      · cases ev
      · rename_i hc
        simp only [Bool.or_eq_true, not_or, Bool.not_eq_true, Bool.not_eq_false', decide_eq_true_eq] at hc
        obtain ⟨⟨hc1, hc2⟩, hc3⟩ := hc
        split at ev
        · rename_i ys ρ2 hl
          obtain ⟨n, hn, e3⟩ := Option.map_eq_some_iff.mp ev
          cases e3
          have eI : evI p.gs cal it ρ = some (items, kp, ρ1) := by unfold evI; rw [e1]; simp only [e2]
          refine ⟨G, fp, ρ, items, kp, ρ1, hp, eI, fun J kv G1 H1 fk fe P1 rk wk => fun D0 hD => ?_⟩
          obtain ⟨g1, g2, e1', e2'⟩ := P1.env.wipeD vs
          have nfe : fe.Nodup := P1.pre.n
          have hlen : ys.length ≤ sizeLine := by
            have key : ∀ {f : D → En → Option (List D × En)} (hf : ∀ x ρ o ρ', f x ρ = some (o, ρ') → o.length = 1) (xs : List D) (ρ : En) (ys : List D) (ρ' : En), lcL f xs ρ = some (ys, ρ') → ys.length = xs.length := by
              intro f hf xs
              induction xs with
              | nil => intro ρ ys ρ' h; simp only [lcL] at h; cases h; rfl
              | cons x xs ih =>
                intro ρ ys ρ' h
                simp only [lcL] at h
                split at h
                · cases h
                · rename_i o ρ1 h1
                  split at h
                  · cases h
                  · rename_i zs ρ2 h2
                    cases h
                    simp [hf _ _ _ _ h1, ih _ _ _ h2]; omega
            rw [key ?_ items _ _ _ hl]
            · have : sizeLine = 16777216 := sizeLine_eq
              omega
            · intro x ρ o ρ' h
              split at h
              · cases h
              · split at h
                · cases h; rfl
                · cases h
          have main : ∀ (acc : List D → HO → Prop) (ok : D → Bool) (o0 : HO), PutOk K acc ok → acc [] o0 → (o0 = .dK [] ∨ o0 = .dT []) → (∀ y ∈ ys, ok y = true) → (∀ o, acc ys o → ∃ kvs, o = .dK kvs ∧ kvs.map (·.1) = n.map Sum.inl) →
              ∃ o : HO, (o = .dK [] ∨ o = .dT []) ∧ ∃ W : Nat → Nat → Hp → Prop, (∃ m, W 0 m (upd H1 D0 o)) ∧ ∀ i m H, W i m H → (J.stop i H ∧ Q' (.ref D0) H) ∨
                (J.go i H ∧ ∃ Nx : Hp → Prop, (∀ H', Nx H' → ∃ m', m' < m ∧ W (i + 1) m' H') ∧ ∀ x H', J.yld i H x H' → tG K t x (wipe σ vs) H' fun σ2 H2 => wipe σ2 vs = wipe σ vs ∧ tE p cal K key σ2 H2 fun y H4 => ∃ H5, DPut H4 D0 y (.bl bv) H5 ∧ Nx H5) := by
            intro acc ok o0 hput h0 ho hall hend
            have P2 := (P1.env' (EnvP.wipeS e1' vs fun v h => h) (List.nodup_append.mp (e2'.nodup_iff.mpr nfe)).2.1 fun a h => e2'.mem_iff.mp (List.mem_append_right _ h)).imp (q := isP key && isP it) fun z => by
              simp only [Bool.and_eq_true] at z
              exact z.2
            have P3 := P2.more (o := o0) rk.ne hD
            have L0 : DS K (isP key && isP it) fp G H G1 D0 kp kv fk acc G1 (upd H1 D0 o0) (wipeD ρ1 vs) (wipe σ vs) g2 [] :=
              ⟨o0, P3, upd_same, h0, Same.none P1.ev.h hD, by rw [del_new hD]; exact rk, Same.refl _⟩
            refine ⟨o0, ho, turnsG (L := DS K (isP key && isP it) fp G H G1 D0 kp kv fk acc) (K := K) (kp := kp) (kv := kv) (fk := fk) (Ed := Q' (.ref D0)) (B := fun Nx σ2 H2 => tE p cal K key σ2 H2 fun y H4 => ∃ H5, DPut H4 D0 y (.bl bv) H5 ∧ Nx H5)
              (fun L => let ⟨_, P, _, _, _, r, _⟩ := L; ⟨P.pre, r.undel⟩) (fun L e => L.step e) (fun L e n h => L.bind e n h) wk (fun j hj => by simpa using List.all_eq_true.mp hc3 j hj) (fun x ρ => rfl) ?_ L0 hl ?_⟩
            · intro Nx o ρa ρb G2 H2 σ2 fe2 ys1 hw L hg hrest hn2
              split at hg
              · rename_i y ρ3 ek
                cases hg
                obtain ⟨rest, hrest⟩ := hrest
                rw [List.nil_append] at hrest
                have hy : ok y = true := hall y (by rw [← hrest]; simp)
                have hl1 : ys1.length < sizeLine := by
                  have := congrArg List.length hrest
                  simp at this
                  omega
                obtain ⟨_, PL, _⟩ := id L
                refine ⟨G2, fe2, ρa, y, ρ3, PL.pre, ek, fun v G3 H3 fr3 fe3 P3 r3 => ?_⟩
                obtain ⟨H4, dp, L4⟩ := L.put (b := bv) hput (P3.imp fun _ => hc1) r3 hy hl1
                obtain ⟨fe5, L5⟩ := L4.wiped vs
                rw [hw] at L5
                exact ⟨H4, dp, hn2 _ _ _ L5⟩
              · cases hg
            · intro G' H' fe' L'
              obtain ⟨o, P, q1, q2, q3, q5, q7⟩ := L'
              rw [List.nil_append] at q2
              have PL := P.less (DS.ne q1 q5) .nil fun x h => nomatch h
              have lenσ : ρ2.length = σ.length := by rw [PL.env.length, wipe_length]
              have eσ : EnvP K G' H' ρ2 σ fe' := PL.env.unset (wipe_length σ vs).symm fun j => by
                by_cases hj : j ∈ vs ∧ j < σ.length
                · refine .inl ?_
                  cases hq : ρ2[j]? with
                  | none => exact absurd (List.getElem?_eq_none_iff.mp hq) (by omega)
                  | some o =>
                    cases o with
                    | none => rfl
                    | some dd =>
                      obtain ⟨v, _, _, z, _⟩ := PL.env.take hq
                      rw [wipe_get, if_pos hj] at z
                      cases z
                · refine .inr ?_
                  rw [wipe_get, if_neg hj]
              obtain ⟨f1, f2, r1, r2⟩ := restore_ok P1.env q7 eσ vs
              have PF := PL.env' r1 (List.nodup_append.mp (r2.nodup_iff.mpr PL.pre.n)).2.1 fun a h => r2.mem_iff.mp (List.mem_append_right _ h)
              refine hQ D0 n H' ?_ fun p hp => lst_q PF.ev.h (us_ints (isort n)) hp List.nodup_nil (fun x hx => nomatch hx) (fin_q PF (fun x hx => nomatch hx) k)
              obtain ⟨kvs, z1, z2⟩ := hend o q2
              exact ⟨kvs, by rw [q1, z1], z2⟩
          unfold usS at hn
          split at hn
          · rename_i ks hks
            exact main AccK _ (.dK []) putK_ok ⟨[], [], rfl, rfl, rfl⟩ (.inl rfl) (kOfL_all hks).1 fun o ⟨kvs, ks', z1, z2, z3⟩ => by
              rw [hks] at z2
              cases z2
              exact ⟨kvs, z1, by rw [z3]; exact keysInt_ok hn⟩
          · cases hn
        · cases ev
theorem snd_usort {t : T} {vs : List Nat} (hk : Snd p cal key) (hi : Snd p cal it) : Snd p cal (.usort key t it vs) := by
  have key : ∀ {cc n X}, Good p cal cc n X → ∀ {ast}, chkE p cc (.usort key t it vs) ast = true → PE X ast (tE p cal X.K (.usort key t it vs)) ∧ ∀ whole, isTrue ast X.env whole = (do let v ← whole; standAt ast.pos; holding [v] (truthy v)) := by
    intro cc n X g ast h
    simp only [chkE] at h
    split at h
    · rename_i x px l bv bj bp tg iter scope pos pos2
      simp only [Bool.and_eq_true, Bool.not_eq_true', decide_eq_true_eq] at h
      obtain ⟨⟨⟨⟨⟨⟨rfl, h1⟩, h2⟩, h3⟩, h4⟩, h5⟩, h6⟩ := h
      obtain ⟨o1, o2⟩ := okOwn_ok g h2
      have h3 : chkI p cc it iter tg = true := h3
      have hu := g.hu
      have pg : ∀ (s : Shared) (H : Hp) (C : Addr) (cl : List (Str × Addr)) (fp : List Addr), PG (X.blk s H scope (compEnvC scope cl C X.env) fp) tg (tG X.K t) := fun s H C cl fp => snd_T (g.blk s H scope C cl fp) h5
      have pk : ∀ (s : Shared) (H : Hp) (C : Addr) (cl : List (Str × Addr)) (fp : List Addr), PE (X.blk s H scope (compEnvC scope cl C X.env) fp) l (tE p cal X.K key) := fun s H C cl fp => hk.pe (g.blk s H scope C cl fp) h6
      have q1 := pe_uq (bv := bv) (bj := bj) (bp := bp) (pos := pos) g.calm (by omega) g.nodup (hi.pi g h3) o2 pg pk (noSet h4)
      rw [o1] at q1
      refine ⟨(biF (g.nb "sorted" (by decide +kernel)) (cr_sortedKeys g.calm) (by decide +kernel) (by decide +kernel) (by decide +kernel) _ _ _ _ _ (g.glo h1).1 (pa_cons q1 pa_nil rfl) rfl).imp fun σ H Q q => ?_, fun _ => rfl⟩
      show tUq (tI p cal X.K it) (tG X.K t) (tE p cal X.K key) bv vs σ H fun v H1 => ∃ (a : Addr) (kvs : List (L2.Key × V)) (ks : List Int), [v] = [V.ref a] ∧ H1 a = some (.dK kvs) ∧ kvs.map (·.1) = ks.map Sum.inl ∧ ∀ p, H1 p = none → Q (.ref p) (upd H1 p (.lst ((isort ks).map V.int)))
      refine us_read (bv := bv) (fun D0 n H' hh qq => ?_) q
      obtain ⟨kvs, z1, z2⟩ := hh
      exact ⟨D0, kvs, n, rfl, z1, z2, qq⟩
    · cases h
  exact .plain ⟨fun _ _ => rfl, fun _ _ _ => rfl, rfl, fun _ => rfl, fun d => by cases d <;> rfl⟩ (fun g _ h => (key g h).1) fun g _ h => pt_of (key g h).1 (key g h).2
end
end Pur

/-! Pur24: enumerate, over a list or a tuple. -/
namespace Pur
open PySem PySem.Spec PyProof.Rows L2

set_option maxHeartbeats 1000000 in
theorem enum_new {v : Value} {o : Obj} {Z : Heap → Prop} (B : Begins v o Z) :
    Meets (Builtin.«enumerate.__new__» ⟨[.type "enumerate", v], []⟩) (fun _ R s => Z s.heap ∧
      R (.ok (.ret (.ref (s.heap.push o).objs.size))) { s with heap := (s.heap.push o).push { cls := .type "enumerate", data := .fields #[.none, .bool false, .ref s.heap.objs.size, rawInt 0, .none, .none] } }) :=
  .of_wp fun prog w A R s h => by
    obtain ⟨hp, g, d, tk, os⟩ := s; obtain ⟨h1, h⟩ := h
    have hsub := sub_enumerate
    have start : ∀ {A' : Around} {E : Value → Shared → Prop} {Q : Value → Shared → Prop}, Q (.ref hp.objs.size) ⟨hp.push o, g, d, tk, os⟩ → wpAny (model prog w) A' (pyIter v) Q E ⟨hp, g, d, tk, os⟩ :=
      fun q => B.iter prog w _ _ ⟨hp, g, d, tk, os⟩ _ h1 q
    wp_walk using start
    refine wpAny_stack_any fun st => wpAny_pure ?_
    split
    · rename_i c _ _ _ _ _
      cases (c == Value.type "enumerate")
      · wp_walk using start
        exact ⟨_, rfl, h⟩
      · wp_walk using start
        exact ⟨_, rfl, h⟩
    · wp_walk using start
      exact ⟨_, rfl, h⟩
theorem enum_call {prog : Program} {w : World} {A : Around} {E : Value → Shared → Prop} {s : Shared} {v : Value} {o : Obj} {Z : Heap → Prop} {Q : Value → Shared → Prop} (B : Begins v o Z) (h1 : Z s.heap)
    (h : ∀ h', IsEnum h' (s.heap.objs.size + 1) s.heap.objs.size 0 .none → h'.get? s.heap.objs.size = some o → (∀ b o, s.heap.get? b = some o → h'.get? b = some o) → Q (.ref (s.heap.objs.size + 1)) { s with heap := h' }) :
    wpAny (model prog w) A (call (.type "enumerate") [v]) Q E s := by
  refine callType_new F.called_enumerate (by decide) (F.typeCall_enumerate_1 _) (F.newCall_enumerate_1 _) (fun obj => F.args_object_init_2 obj _) F.entry_enumerate_new (enum_new B) ⟨h1, ?_⟩
  have sz : (s.heap.push o).objs.size = s.heap.objs.size + 1 := Heap.size_push ..
  show _ ∧ _
  have at1 := Heap.get?_push_size (s.heap.push o) (o := { cls := .type "enumerate", data := .fields #[.none, .bool false, .ref s.heap.objs.size, rawInt 0, .none, .none] }) rfl
  rw [sz] at at1 ⊢
  exact ⟨⟨_, at1, rfl⟩, h _ at1 (Heap.get?_push_of_some _ (Heap.get?_push_size _ B.free)) fun b o x => Heap.get?_push_of_some _ (Heap.get?_push_of_some _ x)⟩

/-- the tuple at a, each item in a new pair -/
def ItE (a : Addr) : It :=
  ⟨fun i H => ∃ (xs : List V) (x : V), H a = some (.tup xs) ∧ xs[i]? = some x, fun i H v H' => ∃ T x, v = .ref T ∧ H T = none ∧ H' = upd H T (.tup [.int (i : Nat), x]) ∧ ∀ xs, H a = some (.tup xs) → xs[i]? = some x, fun i H => ∃ xs : List V, H a = some (.tup xs) ∧ xs.length = i⟩
theorem turn_enumT {P : Program} {w : World} {K : PySem.W.Frag} {elts : List Expr} {kk : Nat} {tpos : Pos} (a e it : Addr) :
    Turn P w K (.Tuple elts kk tpos) (ItE a) [e, it] e (fun i h => (∃ old, IsEnum h e it ((i : Nat) : Int) old) ∧ h.IsTupleIter it a i ∧ e ≠ it) where
  mem := List.mem_cons_self
  obj := fun i h ⟨⟨old, he⟩, ⟨o, ho, _, hd⟩, _⟩ b hb => by
    rcases List.mem_cons.mp hb with rfl | hb
    · exact ⟨_, he, fun v q => nomatch q⟩
    · obtain rfl := List.mem_singleton.mp hb
      exact ⟨o, ho, fun v q => by rw [hd] at q; cases q⟩
  keep := fun i h h' ⟨⟨old, he⟩, hi, hne⟩ k => ⟨⟨old, k e (by simp) _ he⟩, hi.at fun o q => k it (by simp) o q, hne⟩
  item := by
    intro X hP hw hK hc i pins s σ H E I hf ⟨⟨old, he⟩, hit, hne⟩ ⟨xs, x, hq, hx⟩
    subst hP hw hK
    obtain ⟨its, rv, p, hz⟩ := I.tuple (SqT.of hq)
    obtain ⟨u, hu, ru⟩ := rv.get hx
    have lte : e < s.heap.objs.size := Heap.lt_size he
    have lti : it < s.heap.objs.size := let ⟨_, q, _⟩ := hit; Heap.lt_size q
    have hea : e ≠ a := fun z => by subst z; have := (hf e (by simp)).1; rw [hq] at this; cases this
    have hia : a ≠ it := fun z => by subst z; have := (hf a (by simp)).1; rw [hq] at this; cases this
    refine wpAny_pyNext_enum_itemD (Draws.tuple (A := X.A.in1) (I.ok.hd hc) it a hia its.toArray) he ⟨hit, show s.heap.IsTuple a its.toArray from p⟩ (by simpa using (List.getElem?_eq_some_iff.mp hu).1) hne (by simp [hne, hea]) fun x' h' tk px ho st' hT hsz hk => ?_
    have ex : x' = u := by
      have px : its.toArray[i]? = some x' := px
      have : its[i]? = some x' := by simpa using px
      rw [hu] at this
      exact (Option.some.inj this).symm
    subst ex
    refine ⟨_, rfl, wpAny_letOwnedTupleGo_enum (s := { s with heap := h', toks := tk + 1 }) ho fun h'' he' sb => ?_⟩
    have at2 : h''.get? s.heap.objs.size = some { cls := .type "tuple", data := .seq #[.int i tk, x'] } := (sb.2 _ (Nat.ne_of_gt lte)).trans hT
    have new : ObjOk X.prog X.w (upd H s.heap.objs.size (.tup [.int (i : Nat), x])) h'' s.heap.objs.size (.tup [.int (i : Nat), x]) :=
      ⟨by show 2 ≤ sizeLine; decide, [.int i tk, x'], .cons ⟨_, rfl⟩ (.cons ru .nil), ⟨_, at2, rfl, _, rfl⟩⟩
    have I1 : Inv X pins σ (upd H s.heap.objs.size (.tup [.int (i : Nat), x])) { s with heap := h'', toks := tk + 1 } :=
      I.turnedNew (ch := [e, it]) (fun b ob hb q => (sb.2 b (fun z => hb (by simp [z]))).trans (hk b ob (fun z => hb (by simp [z])) (fun z => hb (by simp [z])) q)) hf (Nat.le_refl _) new
    refine ⟨.ref s.heap.objs.size, _, I1, rfl, ⟨_, x, rfl, I.hok.fresh (Nat.le_refl _), rfl, fun ys hy => by rw [hq] at hy; cases hy; exact hx⟩, ⟨⟨x', ?_⟩, st'.1.at fun o q => (sb.2 it (Ne.symm hne)).trans q, hne⟩, fun b hb => ?_⟩
    · have e1 : ((i + 1 : Nat) : Int) = (i : Int) + 1 := by omega
      rw [e1]; exact he'
    · have lt : b < s.heap.objs.size := by
        rcases List.mem_cons.mp hb with rfl | hb
        · exact lte
        · exact List.mem_singleton.mp hb ▸ lti
      rw [upd_ne (Nat.ne_of_lt lt)]
      exact (hf b hb).1
  done := by
    intro X hP hw hK hc i pins s σ H E I hf ⟨⟨old, he⟩, hit, hne⟩ ⟨xs, hq, hx⟩
    subst hP hw hK
    obtain ⟨its, rv, p, hz⟩ := I.tuple (SqT.of hq)
    have hia : a ≠ it := fun z => by subst z; have := (hf a (by simp)).1; rw [hq] at this; cases this
    obtain ⟨f0, f1, f2, f3, f4, f5⟩ := hf it (by simp)
    have len : its.toArray.size = i := by rw [List.size_toArray, ← rv.length]; exact hx
    exact wpAny_pyNext_enum_endD (Draws.tuple (A := X.A.in1) (I.ok.hd hc) it a hia its.toArray) he (by rw [len]; exact ⟨hit, show s.heap.IsTuple a its.toArray from p⟩) fun h' eb => ⟨rfl, I.turned (t' := s.toks) (fun b o hb q => eb b o hb q) f0 f1 f3 f4 f5⟩
  self := fun A i s Q E ⟨⟨_, he⟩, _⟩ h => wpAny_pyIter_enum he h

def iEnA (K : PySem.W.Frag) (te : TE) : TI := fun σ H R => te σ H fun v H1 => ∃ a xs, v = .ref a ∧ ((SqL K H1 a xs ∧ R (Ite K a) H1) ∨ (H1 a = some (.tup xs) ∧ R (ItE a) H1))
theorem pi_en {X : Cx} {l : Expr} {te : TE} {p pos tpos : Pos} {elts : List Expr} {kk : Nat} (hg : Gl X "enumerate") (hm : X.mg "enumerate" = none) (ha : PE X l te) (hs : isStar l = false) :
    PI X (.Tuple elts kk tpos) (.Call (.Name "enumerate" p) [l] [] pos) (iEnA X.K te) := by
  have st : starEach [l] X.env = [(false, eval l X.env)] := starEach_cons (es := []) hs
  refine ⟨fun pins s σ H R I h => ?_⟩
  have pa := pa_cons ha pa_nil st
  refine Call_ (ld_blt I hg hm boot_enumerate (PyProof.Rows.callWith_type1 (thn (pa.run pos pins s σ H (fun vs H1 => match vs with
    | [v] => ∃ a xs, v = .ref a ∧ ((SqL X.K H1 a xs ∧ R (Ite X.K a) H1) ∨ (H1 a = some (.tup xs) ∧ R (ItE a) H1))
    | _ => False) I h) fun us s1 ⟨vs, H1, I1, r1, q0⟩ => ?_) st rfl))
  cases r1 with
  | nil => exact False.elim q0
  | cons r rr =>
    cases rr with
    | cons _ _ => exact False.elim q0
    | nil =>
      obtain ⟨a, xs, rfl, q1⟩ := q0
      obtain rfl : _ = Value.ref a := r
      have young : ∀ {b : Addr}, s1.heap.objs.size ≤ b → FpOk X pins H1 b := fun hle => I1.fpOk hle (I1.hok.fresh hle)
      have two : ∀ b ∈ [s1.heap.objs.size + 1, s1.heap.objs.size], FpOk X pins H1 b := fun b hb => by
        rcases List.mem_cons.mp hb with rfl | hb
        · exact young (Nat.le_add_right _ _)
        · exact List.mem_singleton.mp hb ▸ young (Nat.le_refl _)
      rcases q1 with ⟨hq, q⟩ | ⟨hq, q⟩
      · obtain ⟨its, rv, p', hz⟩ := I1.list hq
        refine call_enumerate_list p'.isList fun h' he hit hsz hk => wpAny_pyIter_enum he ?_
        exact ⟨s1.heap.objs.size + 1, [s1.heap.objs.size + 1, s1.heap.objs.size], _, _, H1, rfl, I1.kept (t' := s1.toks) hk, turn_enum a (s1.heap.objs.size + 1) s1.heap.objs.size, ⟨⟨.none, he⟩, hit, Nat.succ_ne_self _⟩, two, q⟩
      · obtain ⟨its, rv, p', hz⟩ := I1.tuple (SqT.of hq)
        refine enum_call (begins_tuple a its.toArray) (show s1.heap.IsTuple a its.toArray from p') fun h' he hit hk => wpAny_pyIter_enum he ?_
        exact ⟨s1.heap.objs.size + 1, [s1.heap.objs.size + 1, s1.heap.objs.size], _, _, H1, rfl, I1.kept (t' := s1.toks) hk, turn_enumT a (s1.heap.objs.size + 1) s1.heap.objs.size, ⟨⟨.none, he⟩, ⟨_, hit, rfl, rfl⟩, Nat.succ_ne_self _⟩, two, q⟩
section
variable {p : Pg} {cal : Cal} {K : PySem.W.Frag} {G H : Hp} {a : E}
def enL (xs : List D) : List D := xs.mapIdx fun i x => .tup [.int (i : Nat), x]
/-- a new pair, whatever the frame -/
theorem pair_new {i : Nat} {d : D} {x : V} {T : Addr} (s : Same G H) (hT : H T = none) (r : Rep K G H d x []) : ∃ G', Ev [] G H G' (upd H T (.tup [.int (i : Nat), x])) ∧ Rep K G' (upd H T (.tup [.int (i : Nat), x])) (.tup [.int (i : Nat), d]) (.ref T) [] := by
  have e : Ev [] G H (upd G T (.tup [.int (i : Nat), x])) (upd H T (.tup [.int (i : Nat), x])) := ev_new s hT
  refine ⟨_, e, ?_⟩
  simp only [Rep, RepL]
  exact ⟨T, _, rfl, upd_same, _, _, [], [], rfl, ⟨rfl, rfl⟩, ⟨x, [], [], [], rfl, r.ev e (fun a z => nomatch z) (.inr rfl), ⟨rfl, rfl⟩, rfl⟩, rfl⟩
theorem wk_enL {f : Fl} {xs : List D} {l : Addr} {kv : V} {fk : List Addr} (hf : frzL xs = true) (hkv : kv = .ref l) : Wk K (Ite K l) (enL xs) (.lst f xs) kv fk where
  go := fun i G H hi s r => by
    obtain ⟨a', vs, g, e, h1, h2, _⟩ := r.seqL s
    rw [hkv] at e
    cases e
    have hv : i < vs.length := by rw [← h2.length]; simpa [enL] using hi
    exact ⟨vs, vs[i], h1, by simp [hv]⟩
  stop := fun G H s r => by
    obtain ⟨a', vs, g, e, h1, h2, _⟩ := r.seqL s
    rw [hkv] at e
    cases e
    exact ⟨vs, h1, by rw [← h2.length]; simp [enL]⟩
  yld := fun i G H x H' hi s r y => by
    obtain ⟨a', vs, g, e, h1, h2, _⟩ := r.seqL s
    rw [hkv] at e
    cases e
    obtain ⟨T, x', rfl, hT, rfl, y⟩ := y
    have hi' : i < xs.length := by simpa [enL] using hi
    obtain ⟨v, f1, f2, e1, r1, _, _⟩ := h2.get (i := i) (d := xs[i]) (by simp [hi'])
    have := y vs h1
    rw [e1] at this
    cases this
    have := Rep.fp_nil (frzL_get hf (i := i) (by simp [hi'] : xs[i]? = some xs[i])) r1
    subst this
    obtain ⟨G', z1, z2⟩ := pair_new (i := i) s hT r1
    exact ⟨G', _, z1, by simp [enL, hi'], z2⟩
theorem wk_enT {xs : List D} {l : Addr} {kv : V} {fk : List Addr} (hf : frzL xs = true) (hkv : kv = .ref l) : Wk K (ItE l) (enL xs) (.tup xs) kv fk where
  go := fun i G H hi s r => by
    simp only [Rep] at r
    obtain ⟨a', vs, e, h1, h2⟩ := r
    rw [hkv] at e
    cases e
    have hv : i < vs.length := by rw [← h2.length]; simpa [enL] using hi
    exact ⟨vs, vs[i], s _ _ h1, by simp [hv]⟩
  stop := fun G H s r => by
    simp only [Rep] at r
    obtain ⟨a', vs, e, h1, h2⟩ := r
    rw [hkv] at e
    cases e
    exact ⟨vs, s _ _ h1, by rw [← h2.length]; simp [enL]⟩
  yld := fun i G H x H' hi s r y => by
    simp only [Rep] at r
    obtain ⟨a', vs, e, h1, h2⟩ := r
    rw [hkv] at e
    cases e
    obtain ⟨T, x', rfl, hT, rfl, y⟩ := y
    have hi' : i < xs.length := by simpa [enL] using hi
    obtain ⟨v, f1, f2, e1, r1, _, _⟩ := h2.get (i := i) (d := xs[i]) (by simp [hi'])
    have := y vs (s _ _ h1)
    rw [e1] at this
    cases this
    have := Rep.fp_nil (frzL_get hf (i := i) (by simp [hi'] : xs[i]? = some xs[i])) r1
    subst this
    obtain ⟨G', z1, z2⟩ := pair_new (i := i) s hT r1
    exact ⟨G', _, z1, by simp [enL, hi'], z2⟩
theorem snd_enum (ha : Snd p cal a) : Snd p cal (.enum a) := by
  refine .walk (fun _ _ => rfl) (fun _ _ => rfl) rfl fun {c n X} g iter tg h => ?_
  simp only [chkJ] at h
  split at h
  · rename_i x px l pos
    simp only [Bool.and_eq_true, Bool.not_eq_true', decide_eq_true_eq] at h
    obtain ⟨⟨⟨⟨rfl, h1⟩, h2⟩, h3⟩, h4⟩ := h
    cases tg with
    | Tuple elts kk tpos =>
      refine (pi_en (g.glo h1).1 (g.nb _ (by decide +kernel)) (ha.pe g h4) h3).imp fun σ H R ⟨G, fp, ρ, items, kp, ρ', hp, ev, k⟩ => ?_
      simp only [evI, evE] at ev
      split at ev
      · cases ev
      · rename_i d0 ρ1 e0
        split at e0
        · rename_i d ρ2 ea
          split at e0
          · rename_i xs es
            split at e0
            · rename_i hf
              cases e0
              simp only [itOf] at ev
              cases ev
              refine ⟨G, fp, ρ, kp, _, hp, ea, fun v G' H' fr fe P r => ?_⟩
              cases kp with
              | lst f ys =>
                simp only [seqOf, Option.some.injEq] at es
                subst es
                obtain ⟨l1, vs, g', rfl, h1, h2, _⟩ := r.seqL P.ev.h
                exact ⟨l1, vs, rfl, .inl ⟨h1, k _ _ G' H' fr fe P r (wk_enL hf rfl)⟩⟩
              | tup ys =>
                simp only [seqOf, Option.some.injEq] at es
                subst es
                have r' := r
                simp only [Rep] at r'
                obtain ⟨l1, vs, rfl, h1, h2⟩ := r'
                exact ⟨l1, vs, rfl, .inr ⟨P.ev.h _ _ h1, k _ _ G' H' fr fe P r (wk_enT hf rfl)⟩⟩
              | _ => simp only [seqOf, reduceCtorEq] at es
            · cases e0
          · cases e0
        · cases e0
    | _ => simp [isTupE] at h2
  · cases h
theorem snd_zip (a b : E) : Snd p cal (.zip a b) := by
  refine .walk (fun _ _ => rfl) (fun _ _ => rfl) rfl fun {c n X} g iter tg h => ⟨fun pins s σ H R I ⟨G, fp, ρ, items, kp, ρ', hp, ev, k⟩ => ?_⟩
  simp only [evI, evE] at ev
  cases ev

/-! ### shared from its birth on; methods that change nothing -/
theorem Post.sh {K : PySem.W.Frag} {q : Bool} {fp fr fe : List Addr} {G H G1 H1 : Hp} {ρ1 : En} {σ : St} (P : Post K q fp G H G1 H1 fr ρ1 σ fe) (t1 : ∀ a ∈ fr, G1 a = none) : Post K q fp G H (shr G1 H1 fr) H1 [] ρ1 σ fe :=
  have E := shr_ev (fp := fr) P.ev.h t1
  ⟨P.ev.trans E (fun x h => P.new x (List.mem_append_left _ h)), P.env.ev E (fun a h z => P.dj a z h), P.pre.n, fun a h => P.new a (List.mem_append_right _ (by simpa using h)), fun z => (P.pu z).trans E (fun x h => .inr (P.pn z x h)), fun _ a h => nomatch h⟩
theorem sh_q {K : PySem.W.Frag} {a : E} {σ : St} {H : Hp} {Q : VK} (h : tE p cal K (.sh a) σ H Q) : tE p cal K a σ H Q := by
  obtain ⟨G, fp, ρ, d, ρ', hp, ev, k⟩ := h
  simp only [evE] at ev
  split at ev
  · rename_i d0 ρ1 ea
    split at ev
    · cases ev
    · rename_i hb
      cases ev
      refine ⟨G, fp, ρ, d0, _, hp, ea, fun v G' H' fr fe P r => ?_⟩
      have t1 : ∀ a ∈ fr, G' a = none := fun a q => (r.there a q).2
      exact k v (shr G' H' fr) H' [] fe (P.sh t1) (r.share (shr_same t1) (fun a q => shr_in q) (by simpa using hb))
  · cases ev
theorem sh_t {K : PySem.W.Frag} {a : E} {σ : St} {H : Hp} {Q : Bool → Hp → Prop} (h : tT p cal K (.sh a) σ H Q) : tT p cal K a σ H Q := by
  obtain ⟨G, fp, ρ, b, ρ', hp, ev, k⟩ := h
  simp only [evE] at ev
  split at ev
  · rename_i d0 ρ1 ea
    split at ev
    · cases ev
    · cases d0 with
      | bl b0 =>
        simp only [share] at ev
        cases ev
        exact ⟨G, fp, ρ, _, _, hp, ea, k⟩
      | lst f xs => cases f <;> simp [share] at ev
      | _ => simp [share] at ev
  · cases ev
theorem chk_sh {c : SC} {a : E} {e : Expr} (h : chkE p c (.sh a) e = true) : chkE p c a e = true := by
  simp only [chkE] at h
  split at h <;> first | exact h | cases h
theorem snd_sh {a : E} (ha : Snd p cal a) : Snd p cal (.sh a) :=
  .plain ⟨fun _ _ => rfl, fun _ _ _ => rfl, rfl, fun _ => rfl, fun d => by cases d <;> rfl⟩ (fun g _ h => (ha.pe g (chk_sh h)).imp fun _ _ _ q => sh_q q) fun g _ h => (ha.pt g (chk_sh h)).imp fun _ _ _ q => sh_t q
theorem setC_sh {a : E} (h : SetC p cal a) : SetC p cal (.sh a) := fun g kf l gens scope pos hc i y py spos h1 h2 h3 h4 =>
  (h g kf (chk_sh hc) h1 h2 h3 h4).imp fun _ _ _ q => sh_q q
theorem snd_meth {a b : E} (m : Me) (ha : Snd p cal a) (hb : Snd p cal b) : Snd p cal (.meth m a b) := by
  have key : ∀ {c n X}, Good p cal c n X → ∀ {ast}, chkE p c (.meth m a b) ast = true → PE X ast (tE p cal X.K (.meth m a b)) ∧ ∀ whole, isTrue ast X.env whole = (do let v ← whole; standAt ast.pos; holding [v] (truthy v)) := by
    intro c n X g ast h
    simp only [chkE] at h
    split at h
    · rename_i o nm ap l cp
      simp only [Bool.and_eq_true, decide_eq_true_eq, Bool.not_eq_true'] at h
      obtain ⟨⟨⟨⟨⟨rfl, h1⟩, h2⟩, h3⟩, h4⟩, h5⟩ := h
      obtain ⟨id, r, slot, hty, hm, ok⟩ := me_ok (X := X) g.hu m
      have hs := starEach_cons (env := X.env) (es := []) h3
      have hbase : attributeBase o (meNm m) X.env (eval o X.env) = eval o X.env := by
        cases o <;> simp [okBase] at h2 <;> rfl
      refine ⟨(pe_bm PySem.F.plainAttrs_list slot hty hm (ha.pe g h4) (pa_cons (hb.pe g h5) pa_nil hs) hbase (by rw [hs]; rfl) h1 hs (by rfl)).imp fun σ H Q ⟨G, fp, ρ, w, ρ', hp, ev, k⟩ => ?_, fun _ => rfl⟩
      simp only [evE] at ev
      split at ev
      · cases ev
      · rename_i x ρ1 ea
        split at ev
        · cases ev
        · rename_i y ρ2 eb
          split at ev
          · cases ev
          · rename_i hc
            obtain ⟨z, e1, e2⟩ := Option.map_eq_some_iff.mp ev
            cases e2
            have hx : ∃ f xs, x = .lst f xs := by
              cases x with
              | lst f xs => exact ⟨f, xs, rfl⟩
              | _ => cases m <;> simp [meS] at e1
            obtain ⟨f, xs, rfl⟩ := hx
            refine ⟨G, fp, ρ, _, ρ1, hp, ea, fun u G1 H1 f1 fe P1 r1 => ⟨?_, G1, fe, ρ1, y, _, P1.pre, eb, fun v G2 H2 f2 fe2 P2 r2 => ?_⟩⟩
            · obtain ⟨l, vs, _, rfl, hs, _⟩ := r1.seqL P1.ev.h
              exact .inl ⟨rfl, _, hs⟩
            · have P := P1.trans r1.ne P2
              have r1' := r1.then P1.dj P2 (by simpa using hc)
              exact ok G2 H2 _ y u v f1 f2 _ Q P.ev.h r1' r2 P.ndr e1 (fin_q P (ne_app r1'.ne r2.ne) k)
    · cases h
  exact .plain ⟨fun _ _ => rfl, fun _ _ _ => rfl, rfl, fun _ => rfl, fun d => by cases d <;> rfl⟩ (fun g _ h => (key g h).1) fun g _ h => pt_of (key g h).1 (key g h).2

theorem rep_rg {K : PySem.W.Frag} {G H : Hp} : ∀ L : List Nat, RepL K G H (L.map fun k => D.int (0 + (k : Nat))) (L.map fun k => V.int (0 + (k : Nat))) []
  | [] => by simp [RepL]
  | k :: L => by
    simp only [List.map_cons, RepL]
    exact ⟨_, _, [], [], rfl, by simp [Rep], rep_rg L, rfl⟩
theorem snd_lrg {a : E} (ha : Snd p cal a) : Snd p cal (.lrg a) := by
  have key : ∀ {c n X}, Good p cal c n X → ∀ {ast}, chkE p c (.lrg a) ast = true → PE X ast (tE p cal X.K (.lrg a)) ∧ ∀ whole, isTrue ast X.env whole = (do let v ← whole; standAt ast.pos; holding [v] (truthy v)) := by
    intro c n X g ast h
    simp only [chkE] at h
    split at h
    · simp only [Bool.and_eq_true, decide_eq_true_eq, Bool.not_eq_true'] at h
      obtain ⟨⟨⟨⟨⟨rfl, h1⟩, rfl⟩, h2⟩, h3⟩, h4⟩ := h
      have hs := starEach_cons (env := X.env) (es := []) h3
      refine ⟨(pe_listRg g.calm (g.glo h1).1 (g.nb _ (by decide +kernel)) (prg_1 (g.glo h2).1 (g.nb _ (by decide +kernel)) (ha.pe g h4) hs) (starEach_cons (env := X.env) (es := []) rfl)).imp fun σ H Q ⟨G, fp, ρ, w, ρ', hp, ev, k⟩ => ?_, fun _ => rfl⟩
      simp only [evE] at ev
      split at ev
      · rename_i j ρ1 ea
        split at ev
        · rename_i hj
          cases ev
          refine ⟨G, fp, ρ, _, _, hp, ea, fun v G' H' fr fe P r => ?_⟩
          have r0 := r
          simp only [Rep] at r
          obtain ⟨rfl, rfl⟩ := r
          have z : sizeLine = 16777216 := sizeLine_eq
          refine ⟨j, rfl, ⟨by omega, by omega, by omega, by omega, by omega⟩, fun q hq => ?_⟩
          have e : (j - 0).toNat = j.toNat := by omega
          have rr : RepL X.K G' H' (rangeD 0 j.toNat) (rgV 0 j) [] := by
            unfold rangeD rgV
            rw [e]
            exact rep_rg _
          exact lst_q P.ev.h rr hq List.nodup_nil (fun x hx => nomatch hx) (fin_q P r0.ne k)
        · cases ev
      · cases ev
    · cases h
  exact .plain ⟨fun _ _ => rfl, fun _ _ _ => rfl, rfl, fun _ => rfl, fun d => by cases d <;> rfl⟩ (fun g _ h => (key g h).1) fun g _ h => pt_of (key g h).1 (key g h).2
end
end Pur

/-! Pur25: every expression and every statement. -/
namespace Pur
open PySem PySem.Spec PyProof.Rows L2
theorem sndE (p : Pg) (cal : Cal) : ∀ e : E, Snd p cal e
  | .v m i => snd_v m i
  | .lend i => snd_lend i
  | .int i => snd_int i
  | .bl b => snd_bl b
  | .non => snd_non
  | .str s => snd_str s
  | .glob k => snd_glob k
  | .bin o a b => snd_bin o (sndE p cal a) (sndE p cal b)
  | .neg a => snd_neg (sndE p cal a)
  | .cmp o a b => snd_cmp o (sndE p cal a) (sndE p cal b)
  | .chain o o' a b c => snd_chain o o' (sndE p cal a) (sndE p cal b) (sndE p cal c)
  | .and_ es => snd_and (sndE p cal es)
  | .or_ es => snd_or (sndE p cal es)
  | .not_ a => snd_not (sndE p cal a)
  | .ife c a b => snd_ife (sndE p cal c) (sndE p cal a) (sndE p cal b)
  | .tup es => snd_tup (sndE p cal es)
  | .lst es => snd_lst (sndE p cal es)
  | .nil => snd_nil
  | .cons a es => snd_cons (sndE p cal a) (sndE p cal es)
  | .idx a i => snd_idx (sndE p cal a) (sndE p cal i)
  | .slc a lo hi => snd_slc (sndE p cal a) (sndE p cal lo) (sndE p cal hi)
  | .abs_ => snd_abs
  | .bi f es => snd_bi f (sndE p cal es)
  | .isi a n => snd_isi n (sndE p cal a)
  | .fc k es => snd_fc k (sndE p cal es)
  | .lc elt t it c vs => snd_lc (sndE p cal elt) (sndE p cal it) (sndE p cal c)
  | .lc2 elt t it t2 it2 c vs vs2 => snd_lc2 (sndE p cal elt) (sndE p cal it) (sndE p cal it2) (sndE p cal c)
  | .uniq key t it vs => snd_uniq (sndE p cal key) (sndE p cal it)
  | .pop i k => snd_pop i (sndE p cal k)
  | .rng a => snd_rng (sndE p cal a)
  | .rng2 a b => snd_rng2 (sndE p cal a) (sndE p cal b)
  | .enum a => snd_enum (sndE p cal a)
  | .zip a b => snd_zip a b
  | .sh a => snd_sh (sndE p cal a)
  | .lrg a => snd_lrg (sndE p cal a)
  | .usort key t it vs => snd_usort (sndE p cal key) (sndE p cal it)
  | .meth m a b => snd_meth m (sndE p cal a) (sndE p cal b)
theorem setC (p : Pg) (cal : Cal) (e : E) : SetC p cal e := by
  cases e with
  | lc elt t it c vs => exact setC_lc (sndE p cal elt) (sndE p cal it) (sndE p cal c)
  | lc2 elt t it t2 it2 c vs vs2 => exact setC_lc2 (sndE p cal elt) (sndE p cal it) (sndE p cal it2) (sndE p cal c)
  | sh a => exact setC_sh (setC p cal a)
  | _ => intro cc n X g kf l gens scope pos h; simp [chkE] at h
theorem sndS (p : Pg) (cal : Cal) (W : Nat) : ∀ s : S, SndS p cal W s
  | .nil => sS_nil
  | .cons s r => sS_cons (sndS p cal W s) (sndS p cal W r)
  | .pass => sS_pass
  | .asg t e => sS_asg (sndE p cal e) (setC p cal e)
  | .par i j a b => sS_par (sndE p cal a) (sndE p cal b)
  | .par3 i j k a b c => sS_par3 (sndE p cal a) (sndE p cal b) (sndE p cal c)
  | .ex e => sS_ex (sndE p cal e)
  | .app i e => sS_app (sndE p cal e)
  | .ext i e => sS_ext (sndE p cal e)
  | .set1 i k e => sS_set1 (sndE p cal k) (sndE p cal e)
  | .set2 i a b e => sS_set2 (sndE p cal a) (sndE p cal b) (sndE p cal e)
  | .pop2 i a b => sS_pop2 (sndE p cal a) (sndE p cal b)
  | .aug i o e => sS_aug (sndE p cal e)
  | .ifs c a b => sS_ifs (sndE p cal c) (sndS p cal W a) (sndS p cal W b)
  | .for_ t it b wp => sS_for (sndE p cal it) (sndS p cal W b)
  | .whl c b wp => sS_whl (sndE p cal c) (sndS p cal W b)
  | .ret e => sS_ret (sndE p cal e)
  | .retn => sS_retn
  | .brk => sS_brk
  | .cnt => sS_cnt
  | .no => sS_no
end Pur

/-! Pur26: the defs. -/
namespace Pur
open PySem PySem.Spec PyProof.Rows L2

section
variable {P : Program} {w : World} {K : PySem.W.Frag} {mg : Str → Option Value} {base : Heap}
/-- a def, by the reading of its body -/
theorem fnR_of {x qual : Str} {st : Stmt} {f : Addr} {fd : FuncData} {N ps : List Str} {k : Nat} {sp : Sp1} (F : Fun K x qual st f fd) (S : FnScope N ps (defScope st)) (len : ∀ vs H Q, sp vs H Q → vs.length = ps.length)
    (body : ∀ (cdv : Value) (A : Around) (outer : List Env) (s : Shared) (H : Hp) (vs : List V) (Q : VK), Room k (A.deeper (envOfC qual (defScope st) s.heap.objs.size f cdv)) → A.guards = some [] → sp vs H Q →
      ∃ t, PSs (cxOf CX0 P w K mg base N qual (defScope st) f cdv A outer s H E0).nox (defBody st) t ∧ t { nx := fun _ H' => Q .non H', rt := Q } (start N vs) H) :
    FnR P w K mg base (k + 1) f fd ps sp := by
  obtain ⟨oc, od, kV, doc, pm, an, cdv, ct, osl, rfl, at_, code⟩ := F.ex
  refine ⟨len, fun A outer s H args us vs Q room noG env bnd rel pre => ?_⟩
  have long := len _ _ _ pre
  have here : K.In s.heap := env.mod.kin.keeps fun b o z => (env.bs b o z).1
  have free : s.heap.NoLimit := env.mod.nolimit.keeps fun b o z => (env.bs b o z).1
  have kinds : ∀ y ∈ ps.zip us, (defScope st).names.lookup y.1 = some .local ∨ ((defScope st).names.lookup y.1 = some .cell ∧ ((cellsFrom (s.heap.objs.size + 1) (defScope st).names []).lookup y.1).isSome = true) := by
    rintro ⟨n, v⟩ hy
    exact (S.par n (List.of_mem_zip hy).1).imp id fun z => ⟨z, PySem.W.cellsFrom_some _ _ _ (.inl z)⟩
  refine codeAny_call_function room.depth (here _ _ at_) rfl S.co S.gen rfl (PySem.W.codeRec_of here code) (bnd _ _ _ _ ?_)
  refine wpAny_newFunctionEnv_cells S.kind kinds fun ne hne s1 ic => ?_
  subst hne
  obtain ⟨t, ht, hq⟩ := body cdv A outer s H vs Q (room.deeper _) noG pre
  refine ⟨free.keeps ic.toInCall.keep, codeAny_func (wpAny_mono (ht.nox.run [] s1 (start N vs) H _ (inv_start S room.hd env long rel ic) hq) (fun fl s' h => ?_) fun e s' h => h)⟩
  cases fl with
  | ret u =>
    obtain ⟨v, σ', H', J, rv, q⟩ := h
    exact ⟨v, H', J.os, J.bare, J.base, J.hok, rv, q⟩
  | next =>
    obtain ⟨σ', H', J, q⟩ := h
    exact ⟨.non, H', J.os, J.bare, J.base, J.hok, rfl, q⟩
  | brk => exact h.elim fun _ h => h.elim fun _ h => h.2.elim
  | cont => exact h.elim fun _ h => h.elim fun _ h => h.2.elim
end

section
variable {K : PySem.W.Frag} {G H G' H' : Hp}
/-- the parameters at the entry -/
theorem start_ok : ∀ {ds : List D} {vs : List V} {fp : List Addr} {m : Nat}, RepL K G H ds vs fp → borL ds = false → EnvR K G H (ds.map some ++ List.replicate m none) (vs.map some ++ List.replicate m none) fp
  | [], vs, fp, m, h, b => by
    simp only [RepL] at h
    obtain ⟨rfl, rfl⟩ := h
    simp only [List.map_nil, List.nil_append]
    induction m with
    | zero => simp [EnvR]
    | succ m ih => simp only [List.replicate_succ, EnvR]; exact ⟨none, _, rfl, ih⟩
  | d :: ds, vs, fp, m, h, b => by
    simp only [RepL] at h
    obtain ⟨v, r, f1, f2, rfl, h1, h2, rfl⟩ := h
    simp only [borL, Bool.or_eq_false_iff] at b
    simp only [List.map_cons, List.cons_append, EnvR]
    exact ⟨v, _, f1, f2, rfl, b.1, h1, start_ok h2 b.2, rfl⟩
theorem finL_set {as : List Nat} {o : Option D} : ∀ {ds : List D} {i j : Nat} {ρ : En}, j < i → finL as i ds (ρ.set j o) = finL as i ds ρ
  | [], i, j, ρ, h => rfl
  | d :: ds, i, j, ρ, h => by
    simp only [finL]
    rw [finL_set (Nat.lt_succ_of_lt h)]
    have : (ρ.set j o)[i]? = ρ[i]? := List.getElem?_set_ne (by omega)
    rw [this]
theorem fin_ok {as : List Nat} {σ : St} {f : List Addr} (e : Ev f G H G' H') : ∀ {ds : List D} {i : Nat} {ρ : En} {fe : List Addr} {fs : List D} {vs : List V} {fp : List Addr}, EnvP K G' H' ρ σ fe → RepL K G H ds vs fp → borL ds = false → finL as i ds ρ = some fs →
    (∀ j v, vs[j]? = some v → i + j ∉ as → σ[i + j]? = some (some v)) → ∃ ff f2, RepL K G' H' fs vs ff ∧ (ff ++ f2).Perm fe
  | [], i, ρ, fe, fs, vs, fp, k, r, b, h, hs => by
    simp only [finL, Option.some.injEq] at h
    subst h
    simp only [RepL] at r ⊢
    exact ⟨[], fe, ⟨r.1, rfl⟩, .refl _⟩
  | d :: ds, i, ρ, fe, fs, vs, fp, k, r, b, h, hs => by
    simp only [RepL] at r
    obtain ⟨v, r', f1, f2, rfl, h1, h2, rfl⟩ := r
    simp only [borL, Bool.or_eq_false_iff] at b
    simp only [finL] at h
    have shift : ∀ j u, r'[j]? = some u → i + 1 + j ∉ as → σ[i + 1 + j]? = some (some u) := fun j u hu hn => by
      have := hs (j + 1) u (by simpa using hu) (by rw [show i + (j + 1) = i + 1 + j by omega]; exact hn)
      rwa [show i + (j + 1) = i + 1 + j by omega] at this
    split at h
    · cases h
    · rename_i fs' hf
      split at h
      · rename_i hz
        cases h
        obtain ⟨ff, g2, k1, k2⟩ := fin_ok e k h2 b.2 hf shift
        have := Rep.fp_nil hz h1
        subst this
        refine ⟨ff, g2, ?_, k2⟩
        simp only [RepL]
        exact ⟨v, r', [], ff, rfl, h1.ev e (fun a z => nomatch z) (.inl b.1), k1, rfl⟩
      · split at h
        · rename_i f0 hf0
          split at h
          · cases h
          · rename_i hn
            cases h
            obtain ⟨u, g1, g2, z1, z2, z3, z4, z5⟩ := k.take hf0
            have := hs 0 v rfl (by simpa using hn)
            rw [Nat.add_zero, z1] at this
            cases this
            obtain ⟨ff, g3, k1, k2⟩ := fin_ok e z4 h2 b.2 (by rw [finL_set (Nat.lt_succ_self _)]; exact hf) shift
            refine ⟨g1 ++ ff, g3, ?_, ?_⟩
            · simp only [RepL]
              exact ⟨v, r', g1, ff, rfl, z3, k1, rfl⟩
            · rw [List.append_assoc]
              exact (List.Perm.append_left g1 k2).trans z5
        · cases h
end

/-- where a def of the program stands -/
def FnAt (p : Pg) (K : PySem.W.Frag) (mg : Str → Option Value) (f : Fi) : Prop :=
  ∃ (a : Addr) (fd : FuncData) (st : Stmt) (qual : Str) (ps : List Str), mg f.name = some (.ref a) ∧ Fun K f.name qual st a fd ∧ FnScope f.N ps (defScope st) ∧ ps.length = f.np ∧ Binds K fd ps [] ∧
    chkB p ⟨f.N, defScope st, fun _ => true⟩ f.body (defBody st) = true
structure ModAt (p : Pg) (K : PySem.W.Frag) (mg : Str → Option Value) : Prop where
  nb : ∀ x ∈ bNames, mg x = none
  gs : ∀ (k : Nat) x d, p.gs[k]? = some (x, d) → frz d = true ∧ ∃ u v, mg x = some u ∧ RelV v u ∧ ∀ G H, Rep K G H d v []
  fs : ∀ f ∈ p.fs, FnAt p K mg f
section
variable {P : Program} {w : World} {K : PySem.W.Frag} {mg : Str → Option Value} {base : Heap} {p : Pg}
theorem spF_len {W n k : Nat} {f : Fi} {m : Nat} (hf : p.fs[k]? = some f) (hm : m = f.np) (vs : List V) (H : Hp) (Q : VK) (h : spF K (calN p W (n + 1)) k vs H Q) : vs.length = m := by
  obtain ⟨G, fp, ds, r, fin, s, rep, nd, b, e, _⟩ := h
  simp only [calN, hf, runF] at e
  split at e
  · rename_i hc
    rw [hm, ← hc.1]
    exact rep.length.symm
  · cases e
theorem fnR_all (M : ModAt p K mg) (W : Nat) : ∀ (n k : Nat) (f : Fi), p.fs[k]? = some f → ∃ a fd ps, mg f.name = some (.ref a) ∧ PySem.W.keepIn K (.ref a) = true ∧ Binds K fd ps [] ∧ ps.length = f.np ∧ FnR P w K mg base n a fd ps (spF K (calN p W n) k)
  | 0, k, f, hf => by
    obtain ⟨a, fd, st, qual, ps, h1, h2, h3, h4, h5, h6⟩ := M.fs f (List.mem_of_getElem? hf)
    have no : ∀ vs H Q, ¬ spF K (calN p W 0) k vs H Q := fun vs H Q ⟨_, _, _, _, _, _, _, _, _, e, _⟩ => by simp only [calN, reduceCtorEq] at e
    exact ⟨a, fd, ps, h1, h2.kp, h5, h4, ⟨fun vs H Q h => absurd h (no vs H Q), fun A outer s H args us vs Q _ _ _ _ _ h => absurd h (no vs H Q)⟩⟩
  | n + 1, k, f, hf => by
    obtain ⟨a, fd, st, qual, ps, h1, h2, h3, h4, h5, h6⟩ := M.fs f (List.mem_of_getElem? hf)
    refine ⟨a, fd, ps, h1, h2.kp, h5, h4, fnR_of h2 h3 (spF_len hf h4) fun cdv A outer s H vs Q room noG h => ?_⟩
    have g : GoodS p (calN p W n) ⟨f.N, defScope st, fun _ => true⟩ n (cxOf CX0 P w K mg base f.N qual (defScope st) a cdv A outer s H E0).nox :=
      { N := rfl, nd := h3.nd, sc := rfl, fn := fun _ => rfl, calm := rfl, room := room, gd := noG, nb := M.nb, gs := M.gs, fs := fun k f hf => fnR_all M W n k f hf, kf := h3.kind, xe := rfl }
    refine ⟨_, (sndS p (calN p W n) W f.body).bl g h6, ?_⟩
    obtain ⟨G, fp, ds, r, fin, sm, rep, nd, b, e, kk⟩ := h
    simp only [calN, hf, runF] at e
    split at e
    · rename_i hc
      have e0 : EnvR K G H (ds.map some ++ List.replicate (f.N.length - f.np) none) (start f.N vs) fp := by
        unfold L2.start
        rw [← rep.length, hc.1]
        exact start_ok rep b
      have par : ∀ j v, vs[j]? = some v → (start f.N vs)[j]? = some (some v) := fun j v hv => by
        have hj : j < vs.length := (List.getElem?_eq_some_iff.mp hv).1
        unfold L2.start
        rw [List.getElem?_append_left (by simpa using hj), List.getElem?_map, hv]
        rfl
      have fin_q : ∀ {ρ' : En} {σ' : St} {G' H' : Hp} {fr fe : List Addr} {d : D} {v : V} {fs : List D}, Post K false fp G H G' H' fr ρ' σ' fe → Ag (asgs f.body) (start f.N vs) σ' → finL (asgs f.body) 0 ds ρ' = some fs → d = r → fs = fin → bor d = false → Rep K G' H' d v fr → Q v H' := by
        intro ρ' σ' G' H' fr fe d v fs P ag hfin e1 e2 hb hr
        subst e1 e2
        obtain ⟨ff, f2, k1, k2⟩ := fin_ok (i := 0) P.ev P.env rep b hfin fun j v hv hn => by
          rw [Nat.zero_add] at hn ⊢
          rw [ag j hn]
          exact par j v hv
        have sub : ∀ x ∈ ff, x ∈ fe := fun x hx => k2.mem_iff.mp (List.mem_append_left _ hx)
        obtain ⟨n1, n2, n3⟩ := List.nodup_append.mp P.nd
        refine kk v G' H' fr ff P.ev hb hr k1 (List.nodup_append.mpr ⟨n1, (List.nodup_append.mp (k2.nodup_iff.mpr n2)).1, fun x hx y hy => n3 x hx y (sub y hy)⟩) fun x hx => P.new x ?_
        rcases List.mem_append.mp hx with z | z
        · exact List.mem_append_left _ z
        · exact List.mem_append_right _ (sub x z)
      split at e
      · rename_i ρ' ev
        obtain ⟨fs, hfin, e2⟩ := Option.map_eq_some_iff.mp e
        cases e2
        exact ⟨G, fp, _, _, ⟨sm, ⟨_, e0, .refl _⟩, nd⟩, ev, fun σ' G' H' fe P ag => fin_q P ag hfin rfl rfl rfl (by simp [Rep])⟩
      · rename_i d ρ' ev
        obtain ⟨fs, hfin, e2⟩ := Option.map_eq_some_iff.mp e
        cases e2
        exact ⟨G, fp, _, _, ⟨sm, ⟨_, e0, .refl _⟩, nd⟩, ev, fun v σ' G' H' fr fe P hb hr ag => fin_q P ag hfin rfl rfl hb hr⟩
      · cases e
    · cases e
end
end Pur

/-! Pur27: the law. -/
namespace Pur
open PySem PySem.Spec PyProof.Rows L2

theorem rep_ints {K : PySem.W.Frag} {G H : Hp} : ∀ ns : List Int, RepL K G H (ns.map .int) (ns.map .int) []
  | [] => by simp [RepL]
  | n :: ns => by
    simp only [List.map_cons, RepL]
    exact ⟨.int n, _, [], [], rfl, by simp [Rep], rep_ints ns, rfl⟩
theorem frz_ints : ∀ ns : List Int, frzL (ns.map D.int) = true
  | [] => rfl
  | n :: ns => by simp only [List.map_cons, frzL, frz, frz_ints ns]; rfl
theorem bor_ints : ∀ ns : List Int, borL (ns.map D.int) = false
  | [] => rfl
  | n :: ns => by simp only [List.map_cons, borL, bor, bor_ints ns]; rfl
/-- the law's promise, where the script alone is known -/
theorem sp_law {K : PySem.W.Frag} {cal : Cal} {k : Nat} {H : Hp} {a : Addr} {ns : List Int} {fin : List D} (hc : cal k [.lst .cst (ns.map .int)] = some (.bl true, fin)) (hS : SqL K H a (ns.map V.int)) : spF K cal k [.ref a] H fun v _ => v = .bl true := by
  refine ⟨H, [], [.lst .cst (ns.map .int)], .bl true, fin, Same.refl _, ?_, .nil, by simp [borL, bor, bor_ints], hc, fun v G' H' fr ff _ _ r _ _ _ => ?_⟩
  · simp only [RepL, Rep]
    exact ⟨.ref a, [], [], [], rfl, ⟨a, _, [], rfl, rep_ints ns, hS, rfl, rfl, frz_ints ns⟩, by simp, rfl⟩
  · simp only [Rep] at r
    exact r.1

theorem law_run {P : Program} {w : World} {K : PySem.W.Frag} {mg mb : Str → Option Value} {k : Nat} {fa a : Addr} {sp : Sp1} {s₁ : Shared} {vs : List Value} {ns : List Int}
    (kin : K.In s₁.heap) (gns : s₁.heap.Ns mainGlobals mg) (bns : s₁.heap.Ns builtinsNs mb) (boot : ∀ x : Str, x ≠ "__name__" → mb x = bootBuiltins x) (free : s₁.heap.NoLimit) (quiet : s₁.gens = #[])
    (here : s₁.heap.get? a = some { cls := .type "list", data := .seq vs.toArray }) (whole : IntsAre vs ns) (short : ns.length ≤ sizeLine) (room : Room k callerA) (noG : callerA.guards = some [])
    (F : ∀ base : Heap, K.In base → ∃ fd x, FnR P w K mg base k fa fd [x] sp ∧ Binds K fd [x] [])
    (pre : ∀ H : Hp, SqL K H a (ns.map V.int) → sp [.ref a] H fun v _ => v = .bl true) :
    codeAny (model P w) callerA (.call (.ref fa) ⟨[.ref a], []⟩) (fun r s' => r = .ok (.ret (.bool true)) ∧ OldK s₁.heap s'.heap ∧ s'.os = s₁.os ∧ AllBare s'.gens) s₁ := by
  have rel := vals_ints whole
  have go : ∀ H : Hp, (∀ b, H b = none ∨ (b = a ∧ K.lookup a = none ∧ ∃ o xs, H b = some (.frz o (.lst xs)))) → SqL K H a (ns.map V.int) → HOk P w H s₁.heap →
      codeAny (model P w) callerA (.call (.ref fa) ⟨[.ref a], []⟩) (fun r s' => r = .ok (.ret (.bool true)) ∧ OldK s₁.heap s'.heap ∧ s'.os = s₁.os ∧ AllBare s'.gens) s₁ := by
    intro H only seq ok
    have stay : ∀ {b : Addr} {o : Obj}, s₁.heap.get? b = some o → H b = none → (hidT s₁.heap H).get? b = some o := fun z n => hidT_get z n
    have spaces : ∀ {b : Addr} {m : Str → Option Value}, s₁.heap.Ns b m → (hidT s₁.heap H).Ns b m := by
      rintro b m ⟨o, es, ep, z, d, q⟩
      refine ⟨o, es, ep, stay z ?_, d, q⟩
      rcases only b with n | ⟨rfl, _, _⟩
      · exact n
      · rw [here] at z
        cases z
        exact nomatch (show Data.seq vs.toArray _ = Data.dict es ep from d)
    have kin' : K.In (hidT s₁.heap H) := fun b o z => stay (kin b o z) (by
      rcases only b with n | ⟨rfl, n, _⟩
      · exact n
      · rw [n] at z; cases z)
    obtain ⟨ml, l1, l2⟩ := free
    have env : Env0 P w K mg (hidT s₁.heap H) callerA [] s₁ H :=
      ⟨rfl, ⟨kin', spaces gns, ⟨mb, spaces bns, boot⟩, ⟨ml, spaces l1, l2⟩⟩, fun b o z => of_hidT z, Nat.le_of_eq (hidT_size _ _), trivial, (fun b hb => nomatch (show b ∈ ([] : List Addr) from hb)), ok, .of_eq quiet⟩
    obtain ⟨fd, x, R, bnd⟩ := F _ kin'
    refine codeAny_mono (R.run callerA [] s₁ H ⟨[.ref a], []⟩ [.ref a] [.ref a] _ room noG env (bnd s₁ [.ref a] kin rfl) (.cons rfl .nil) (pre H seq)) fun r s' h => ?_
    match r, h with
    | .error e, h => exact False.elim h
    | .ok .next, h => exact False.elim h
    | .ok .brk, h => exact False.elim h
    | .ok .cont, h => exact False.elim h
    | .ok (.ret u), ⟨v, H', os, bare, un, ok', r', q⟩ =>
      obtain rfl : v = .bl true := q
      obtain rfl : u = Value.bool true := r'
      refine ⟨rfl, OldK.of_keep fun b o z => ?_, os, bare⟩
      rcases only b with n | ⟨_, _, ob, xs, n⟩
      · exact un.keep b o z n (fun q => nomatch (show b ∈ ([] : List Addr) from q)) (by simp)
      · have z1 := (ok b _ n).1
        have z2 := (ok' b _ (un.frzs b ob _ n)).1
        rw [z] at z1
        cases z1
        exact z2
  cases own : K.lookup a with
  | some o =>
    have z := kin a o own
    rw [here] at z
    cases z
    exact go (fun _ => none) (fun _ => .inl rfl) (.inr ⟨_, vs.toArray, _, own, rfl, rfl, rfl, by rw [List.size_toArray, whole.length]; exact short, by simpa using rel⟩) fun b u z => nomatch (show (none : Option HO) = some u from z)
  | none =>
    refine go (fun b => if b = a then some (.frz { cls := .type "list", data := .seq vs.toArray } (.lst (ns.map V.int))) else none) (fun b => ?_) (.inl (.inr ⟨{ cls := .type "list", data := .seq vs.toArray }, if_pos rfl⟩)) fun b u z => ?_
    · by_cases e : b = a
      · exact .inr ⟨e, own, _, _, if_pos e⟩
      · exact .inl (if_neg e)
    · by_cases e : b = a
      · have z' := (if_pos e).symm.trans z
        cases z'
        subst e
        exact ⟨here, by rw [List.length_map]; exact short, vs, _, rel, here⟩
      · have z' := (if_neg e).symm.trans z
        cases z'

/-- THE END: the row, from the plain law -/
theorem holds_of {l : PySem.W.OpenLaw} {n lv W law : Nat} {q : Program} {loose : List Str} {XP : (Str → Option Value) → Heap → Prop} {YP : World → Heap → Prop} {d : DefRec} {K : Params → PySem.W.Frag} {p : Pg} {f : Fi}
    (hn : l.most = some n) (hn2 : n ≤ sizeLine) (hdf : d.params.defaults = []) (hr : Room lv callerA) (hf : p.fs[law]? = some f) (hnm : f.name = d.name) (hx : f.np = 1)
    (hY : ∀ (w : World) (h : Heap), YP w h → (K w.params).In h)
    (M : ∀ (w : World) (mg : Str → Option Value) (h : Heap), (K w.params).In h → h.Ns mainGlobals mg → ModAt p (K w.params) mg)
    (plain : ∀ ns : List Int, ns.length ≤ n → ∃ fin, calN p W lv law [.lst .cst (ns.map .int)] = some (.bl true, fin)) :
    PySem.W.WalkO q loose XP YP l.row.toRowW d [] (fun f vs => PySem.call f vs) := by
  refine Att.attach_call hn hdf fun w s₀ s₁ mg mb fa o pm cd doc a vs ns G Y ho hd hcd hmg hobj hints hlen hg => ?_
  have kin := hY w _ Y
  have md := M w mg _ kin G.T.g
  obtain ⟨fin, hfin⟩ := plain ns hlen
  refine law_run (sp := spF (K w.params) (calN p W lv) law) kin G.T.g G.T.b G.T.builtins G.T.nolimit hg hobj hints (Nat.le_trans hlen hn2) hr rfl (fun base _ => ?_) fun H hS => sp_law hfin hS
  obtain ⟨a', fd', ps', e1, e2, e3, e4, e5⟩ := fnR_all (P := l.prog) (w := w) (base := base) md W lv law f hf
  rw [hnm, hmg] at e1
  cases e1
  rw [hx] at e4
  match ps', e4 with
  | [y], _ => exact ⟨fd', y, e5, e3⟩
end Pur

namespace Pur
open PySem
def b_is_integer : S :=
  (.cons (.ret (.and_ (.cons (.isi (.v .bo 0) "int") (.cons (.not_ (.isi (.v .bo 0) "bool")) .nil)))) .nil)
def n_is_integer : List Str := ["thing"]
def b_is_within (f_is_integer : Nat) : S :=
  (.cons (.ret (.and_ (.cons (.fc f_is_integer (.cons (.lend 0) .nil)) (.cons (.chain .le .le (.v .bo 1) (.v .bo 0) (.v .bo 2)) .nil)))) .nil)
def n_is_within : List Str := ["thing", "low", "high"]
def b_is_dot (f_is_within : Nat) (g_MOST_PLACE : Nat) : S :=
  (.cons (.ifs (.or_ (.cons (.not_ (.isi (.v .bo 0) "tuple")) (.cons (.cmp .ne (.bi .len (.cons (.v .bo 0) .nil)) (.int 2)) .nil))) (.cons (.ret (.bl false)) .nil) .nil) (.cons (.ret (.bi .all (.cons (.lc (.fc f_is_within (.cons (.lend 1) (.cons (.neg (.glob g_MOST_PLACE)) (.cons (.glob g_MOST_PLACE) .nil)))) (.nm 1) (.v .fz 0) (.bl true) [1]) .nil))) .nil))
def n_is_dot : List Str := ["thing", "one"]
def b_check_dots (f_is_dot : Nat) : S :=
  (.cons (.for_ (.nm 1) (.v .fz 0) (.cons (.ifs (.not_ (.fc f_is_dot (.cons (.lend 1) .nil))) (.cons .no .nil) .nil) .nil) []) .nil)
def n_check_dots : List Str := ["some", "one"]
def b_is_crowd (f_is_dot : Nat) (g_LEAST_CROWD : Nat) (g_MOST_CROWD : Nat) : S :=
  (.cons (.ifs (.or_ (.cons (.not_ (.isi (.v .bo 0) "tuple")) (.cons (.not_ (.chain .le .le (.glob g_LEAST_CROWD) (.bi .len (.cons (.v .bo 0) .nil)) (.glob g_MOST_CROWD))) .nil))) (.cons (.ret (.bl false)) .nil) .nil) (.cons (.ret (.and_ (.cons (.bi .all (.cons (.lc (.fc f_is_dot (.cons (.lend 1) .nil)) (.nm 1) (.v .fz 0) (.bl true) [1]) .nil)) (.cons (.cmp .eq (.uniq (.v .bo 1) (.nm 1) (.v .bo 0) [1]) (.bi .len (.cons (.v .bo 0) .nil))) .nil)))) .nil))
def n_is_crowd : List Str := ["thing", "one"]
def b_check_crowd (f_is_crowd : Nat) : S :=
  (.cons (.ifs (.not_ (.fc f_is_crowd (.cons (.lend 0) .nil))) (.cons .no .nil) .nil) .nil)
def n_check_crowd : List Str := ["thing"]
def b_lots_of : S :=
  (.cons (.asg (.nm 2) (.lst (.cons (.tup .nil) .nil))) (.cons (.for_ (.nm 3) (.rng (.v .bo 1)) (.cons (.asg (.nm 4) (.lst .nil)) (.cons (.for_ (.nm 5) (.v .fz 2) (.cons (.ext 4 (.lc (.bin .add (.v .bo 5) (.tup (.cons (.v .bo 6) .nil))) (.nm 6) (.rng2 (.ife (.cmp .gt (.bi .len (.cons (.v .bo 5) .nil)) (.int 0)) (.bin .add (.idx (.v .bo 5) (.neg (.int 1))) (.int 1)) (.int 0)) (.v .bo 0)) (.bl true) [6])) .nil) []) (.cons (.asg (.nm 2) (.v .mv 4)) .nil))) []) (.cons (.ret (.v .mv 2)) .nil)))
def n_lots_of : List Str := ["many", "size", "found", "turn", "longer", "lot", "one"]
def b_near_enough (g_MOST_PLACE : Nat) : S :=
  (.cons (.ifs (.not_ (.bi .all (.cons (.lc2 (.cmp .le (.bi .abs (.cons (.v .bo 2) .nil)) (.glob g_MOST_PLACE)) (.nm 1) (.v .bo 0) (.nm 2) (.v .bo 1) (.bl true) [1, 2] [2]) .nil))) (.cons .no .nil) .nil) (.cons (.ret (.v .bo 0)) .nil))
def n_near_enough : List Str := ["crowd", "dot", "one"]
def b_moved (f_check_dots : Nat) (f_check_crowd : Nat) (f_near_enough : Nat) : S :=
  (.cons (.ex (.fc f_check_crowd (.cons (.lend 0) .nil))) (.cons (.ex (.fc f_check_dots (.cons (.tup (.cons (.v .bo 1) .nil)) .nil))) (.cons (.ret (.fc f_near_enough (.cons (.bi .tuple (.cons (.lc (.tup (.cons (.bin .add (.v .bo 2) (.idx (.v .bo 1) (.int 0))) (.cons (.bin .add (.v .bo 3) (.idx (.v .bo 1) (.int 1))) .nil))) (.tp (.cons (.nm 2) (.cons (.nm 3) .nil))) (.v .bo 0) (.bl true) [2, 3]) .nil)) .nil))) .nil)))
def n_moved : List Str := ["crowd", "by", "x", "y"]
def b_third_shown (f_check_crowd : Nat) (f_lots_of : Nat) (f_has_third : Nat) (g_THREE : Nat) (g_NONE : Nat) : S :=
  (.cons (.ex (.fc f_check_crowd (.cons (.lend 0) .nil))) (.cons (.for_ (.nm 1) (.fc f_lots_of (.cons (.bi .len (.cons (.v .bo 0) .nil)) (.cons (.int 3) .nil))) (.cons (.ifs (.fc f_has_third (.cons (.lend 0) (.cons (.lend 1) .nil))) (.cons (.ret (.tup (.cons (.glob g_THREE) (.cons (.v .bo 1) .nil)))) .nil) .nil) .nil) []) (.cons (.ret (.tup (.cons (.glob g_NONE) .nil))) .nil)))
def n_third_shown : List Str := ["crowd", "lot"]
def b_has_third : S :=
  (.cons (.ret (.bi .all (.cons (.lc (.cmp .eq (.bin .mod (.bi .sum (.cons (.lc (.idx (.idx (.v .bo 0) (.v .bo 3)) (.v .bo 2)) (.nm 3) (.v .bo 1) (.bl true) [3]) .nil)) (.int 3)) (.int 0)) (.nm 2) (.tup (.cons (.int 0) (.cons (.int 1) .nil))) (.bl true) [2]) .nil))) .nil)
def n_has_third : List Str := ["crowd", "lot", "axis", "place"]
def b_thirds_many (f_check_crowd : Nat) (f_lots_of : Nat) (f_has_third : Nat) : S :=
  (.cons (.ex (.fc f_check_crowd (.cons (.lend 0) .nil))) (.cons (.ret (.bi .len (.cons (.lc (.v .bo 1) (.nm 1) (.fc f_lots_of (.cons (.bi .len (.cons (.v .bo 0) .nil)) (.cons (.int 3) .nil))) (.fc f_has_third (.cons (.lend 0) (.cons (.lend 1) .nil))) [1]) .nil))) .nil))
def n_thirds_many : List Str := ["crowd", "lot"]
def b_law_bag : S :=
  (.cons (.asg (.nm 2) (.lc (.bi .abs (.cons (.bi .int (.cons (.v .bo 4) .nil)) .nil)) (.nm 4) (.slc (.v .bo 0) .abs_ (.int 63)) (.bl true) [4])) (.cons (.asg (.nm 3) (.bin .add (.v .bo 1) (.bin .mul (.int 31) (.bi .len (.cons (.v .bo 2) .nil))))) (.cons (.for_ (.nm 4) (.v .fz 2) (.cons (.asg (.nm 3) (.bin .mod (.bi .int (.cons (.bin .add (.bin .add (.bin .mul (.v .bo 3) (.int 40014)) (.bin .mul (.v .bo 4) (.int 69621))) (.int 17)) .nil)) (.int 2147483563))) .nil) []) (.cons (.ret (.lst (.cons (.lc (.v .bo 4) (.nm 4) (.v .bo 2) (.cmp .ge (.v .bo 4) (.bin .pow (.int 10) (.int 18))) [4]) (.cons (.int 0) (.cons (.v .bo 3) .nil))))) .nil))))
def n_law_bag : List Str := ["script", "salt", "cells", "seed", "cell"]
def b_law_pick : S :=
  (.cons (.ifs (.cmp .ne (.idx (.v .bo 0) (.int 0)) (.lst .nil)) (.cons (.asg (.nm 3) (.bin .mod (.bi .int (.cons (.idx (.idx (.v .bo 0) (.int 0)) (.int 0)) .nil)) (.v .bo 1))) (.cons (.set2 0 (.int 0) (.int 0) (.bin .fdiv (.idx (.idx (.v .bo 0) (.int 0)) (.int 0)) (.v .bo 1))) (.cons (.ifs (.cmp .eq (.idx (.idx (.v .bo 0) (.int 0)) (.int 0)) (.int 0)) (.cons (.pop2 0 (.int 0) (.int 0)) .nil) .nil) (.cons (.ret (.v .bo 3)) .nil)))) .nil) (.cons (.set1 0 (.int 1) (.bin .add (.idx (.v .bo 0) (.int 1)) (.int 1))) (.cons (.asg (.nm 2) (.bin .mod (.bi .int (.cons (.bin .add (.idx (.v .bo 0) (.int 2)) (.bin .mul (.int 6997) (.idx (.v .bo 0) (.int 1)))) .nil)) (.int 2147483647))) (.cons (.asg (.nm 2) (.bin .mod (.bi .int (.cons (.bin .mul (.v .bo 2) (.bin .add (.int 48271) (.idx (.v .bo 0) (.int 1)))) .nil)) (.int 2147483647))) (.cons (.asg (.nm 2) (.bin .mod (.bi .int (.cons (.bin .mul (.v .bo 2) (.bin .add (.bin .fdiv (.v .bo 2) (.int 1009)) (.int 69621))) .nil)) (.int 2147483563))) (.cons (.ret (.bin .mod (.bi .int (.cons (.bin .fdiv (.v .bo 2) (.int 16)) .nil)) (.v .bo 1))) .nil))))))
def n_law_pick : List Str := ["bag", "many", "number", "found"]
def b_law_some (f_law_pick : Nat) : S :=
  (.cons (.ret (.idx (.v .fz 1) (.fc f_law_pick (.cons (.lend 0) (.cons (.bi .len (.cons (.v .bo 1) .nil)) .nil))))) .nil)
def n_law_some : List Str := ["bag", "things"]
def b_law_area : S :=
  (.cons (.ret (.bin .sub (.bin .mul (.bin .sub (.idx (.v .bo 1) (.int 0)) (.idx (.v .bo 0) (.int 0))) (.bin .sub (.idx (.v .bo 2) (.int 1)) (.idx (.v .bo 0) (.int 1)))) (.bin .mul (.bin .sub (.idx (.v .bo 1) (.int 1)) (.idx (.v .bo 0) (.int 1))) (.bin .sub (.idx (.v .bo 2) (.int 0)) (.idx (.v .bo 0) (.int 0)))))) .nil)
def n_law_area : List Str := ["a", "b", "c"]
def b_law_turn (f_law_area : Nat) : S :=
  (.cons (.asg (.nm 3) (.fc f_law_area (.cons (.lend 0) (.cons (.lend 1) (.cons (.lend 2) .nil))))) (.cons (.ret (.ife (.cmp .gt (.v .bo 3) (.int 0)) (.int 1) (.ife (.cmp .lt (.v .bo 3) (.int 0)) (.neg (.int 1)) (.int 0)))) .nil))
def n_law_turn : List Str := ["a", "b", "c", "area"]
def b_law_dot (f_law_pick : Nat) : S :=
  (.cons (.ret (.tup (.cons (.bin .sub (.fc f_law_pick (.cons (.lend 0) (.cons (.bin .add (.bin .mul (.int 2) (.v .bo 1)) (.int 1)) .nil))) (.v .bo 1)) (.cons (.bin .sub (.fc f_law_pick (.cons (.lend 0) (.cons (.bin .add (.bin .mul (.int 2) (.v .bo 1)) (.int 1)) .nil))) (.v .bo 1)) .nil)))) .nil)
def n_law_dot : List Str := ["bag", "far"]
def b_law_lots : S :=
  (.cons (.asg (.nm 2) (.lst (.cons (.tup .nil) .nil))) (.cons (.for_ (.nm 3) (.rng (.v .bo 1)) (.cons (.asg (.nm 4) (.lst .nil)) (.cons (.for_ (.nm 5) (.v .fz 2) (.cons (.ext 4 (.lc (.bin .add (.v .bo 5) (.tup (.cons (.v .bo 6) .nil))) (.nm 6) (.rng2 (.ife (.cmp .ne (.v .bo 5) (.tup .nil)) (.bin .add (.idx (.v .bo 5) (.neg (.int 1))) (.int 1)) (.int 0)) (.v .bo 0)) (.bl true) [6])) .nil) []) (.cons (.asg (.nm 2) (.v .mv 4)) .nil))) []) (.cons (.ret (.v .mv 2)) .nil)))
def n_law_lots : List Str := ["many", "size", "found", "turn", "longer", "lot", "at"]
def b_law_bow (f_law_pick : Nat) (f_law_dot : Nat) : S :=
  (.cons (.asg (.tp (.cons (.nm 3) (.cons (.nm 4) .nil))) (.tup (.cons (.bin .sub (.fc f_law_pick (.cons (.lend 0) (.cons (.int 7) .nil))) (.int 3)) (.cons (.fc f_law_dot (.cons (.lend 0) (.cons (.int 40) .nil))) .nil)))) (.cons (.asg (.nm 2) (.lc (.tup (.cons (.v .bo 5) (.cons (.bin .mul (.v .bo 5) (.v .bo 5)) .nil))) (.nm 5) (.rng2 (.neg (.int 3)) (.bin .sub (.v .bo 1) (.int 3))) (.bl true) [5])) (.cons (.asg (.nm 2) (.lc (.tup (.cons (.bin .add (.v .bo 6) (.idx (.v .bo 4) (.int 0))) (.cons (.bin .add (.bin .add (.v .bo 7) (.bin .mul (.v .bo 3) (.v .bo 6))) (.idx (.v .bo 4) (.int 1))) .nil))) (.tp (.cons (.nm 6) (.cons (.nm 7) .nil))) (.v .bo 2) (.bl true) [6, 7])) (.cons (.ret (.bi .tuple (.cons (.lc (.pop 2 (.fc f_law_pick (.cons (.lend 0) (.cons (.bi .len (.cons (.v .bo 2) .nil)) .nil)))) (.nm 8) (.rng (.v .bo 1)) (.bl true) [8]) .nil))) .nil))))
def n_law_bow : List Str := ["bag", "many", "dots", "shear", "off", "at", "x", "y", "turn"]
def b_law_free (f_law_pick : Nat) (f_law_some : Nat) (f_law_turn : Nat) (f_law_dot : Nat) (f_law_lots : Nat) (f_law_bow : Nat) : S :=
  (.cons (.asg (.nm 3) (.bin .add (.v .bo 1) (.fc f_law_pick (.cons (.lend 0) (.cons (.bin .add (.bin .sub (.v .bo 2) (.v .bo 1)) (.int 1)) .nil))))) (.cons (.par 6 7 (.fc f_law_pick (.cons (.lend 0) (.cons (.int 6) .nil))) (.lst .nil)) (.cons (.ifs (.cmp .eq (.v .bo 6) (.int 0)) (.cons (.ret (.fc f_law_bow (.cons (.lend 0) (.cons (.lend 3) .nil)))) .nil) .nil) (.cons (.asg (.nm 4) (.ife (.cmp .lt (.v .bo 3) (.int 8)) (.fc f_law_some (.cons (.lend 0) (.cons (.lst (.cons (.int 3) (.cons (.int 6) (.cons (.int 6) (.cons (.int 30) (.cons (.int 10000) .nil)))))) .nil))) (.fc f_law_some (.cons (.lend 0) (.cons (.lst (.cons (.int 8) (.cons (.int 12) (.cons (.int 30) (.cons (.int 10000) .nil))))) .nil))))) (.cons (.for_ (.nm 5) (.rng (.bin .mul (.int 60) (.v .bo 3))) (.cons (.asg (.nm 8) (.fc f_law_dot (.cons (.lend 0) (.cons (.ife (.or_ (.cons (.cmp .lt (.v .bo 6) (.int 5)) (.cons (.cmp .gt (.bi .len (.cons (.v .bo 7) .nil)) (.int 2)) .nil))) (.v .bo 4) (.ife (.cmp .le (.bin .mul (.int 3) (.v .bo 4)) (.int 10000)) (.bin .mul (.int 3) (.v .bo 4)) (.v .bo 4))) .nil)))) (.cons (.asg (.nm 9) (.cmp .notin (.v .bo 8) (.v .bo 7))) (.cons (.for_ (.tp (.cons (.nm 10) (.cons (.nm 11) .nil))) (.fc f_law_lots (.cons (.bi .len (.cons (.v .bo 7) .nil)) (.cons (.int 2) .nil))) (.cons (.asg (.nm 9) (.and_ (.cons (.v .bo 9) (.cons (.cmp .ne (.fc f_law_turn (.cons (.idx (.v .bo 7) (.v .bo 10)) (.cons (.idx (.v .bo 7) (.v .bo 11)) (.cons (.lend 8) .nil)))) (.int 0)) .nil)))) .nil) []) (.cons (.ifs (.and_ (.cons (.v .bo 9) (.cons (.cmp .lt (.bi .len (.cons (.v .bo 7) .nil)) (.v .bo 3)) .nil))) (.cons (.app 7 (.v .bo 8)) .nil) .nil) .nil)))) []) (.cons (.ret (.ife (.cmp .eq (.bi .len (.cons (.v .bo 7) .nil)) (.v .bo 3)) (.bi .tuple (.cons (.v .bo 7) .nil)) (.fc f_law_bow (.cons (.lend 0) (.cons (.lend 3) .nil))))) .nil))))))
def n_law_free : List Str := ["bag", "least", "most", "many", "far", "turn", "kind", "dots", "dot", "good", "i", "j"]
def b_law_crowd (f_law_pick : Nat) (f_law_some : Nat) (f_law_dot : Nat) (f_law_free : Nat) : S :=
  (.cons (.par 5 6 (.fc f_law_pick (.cons (.lend 0) (.cons (.int 6) .nil))) (.bin .add (.v .bo 1) (.fc f_law_pick (.cons (.lend 0) (.cons (.bin .add (.bin .sub (.v .bo 2) (.v .bo 1)) (.int 1)) .nil))))) (.cons (.ifs (.cmp .eq (.v .bo 5) (.int 0)) (.cons (.ret (.fc f_law_free (.cons (.lend 0) (.cons (.lend 1) (.cons (.lend 2) .nil))))) .nil) .nil) (.cons (.asg (.tp (.cons (.nm 7) (.cons (.nm 8) .nil))) (.tup (.cons (.lst .nil) (.cons (.fc f_law_some (.cons (.lend 0) (.cons (.lst (.cons (.int 2) (.cons (.int 2) (.cons (.int 3) (.cons (.int 10) (.cons (.int 10000) .nil)))))) .nil))) .nil)))) (.cons (.par 9 10 (.fc f_law_some (.cons (.lend 0) (.cons (.lst (.cons (.tup (.cons (.int 1) (.cons (.int 0) .nil))) (.cons (.tup (.cons (.int 0) (.cons (.int 1) .nil))) (.cons (.tup (.cons (.int 1) (.cons (.int 1) .nil))) (.cons (.tup (.cons (.int 2) (.cons (.neg (.int 1)) .nil))) (.cons (.tup (.cons (.int 3) (.cons (.int 2) .nil))) .nil)))))) .nil))) (.fc f_law_dot (.cons (.lend 0) (.cons (.int 20) .nil)))) (.cons (.for_ (.nm 3) (.rng (.bin .mul (.int 30) (.v .bo 6))) (.cons (.asg (.nm 11) (.fc f_law_dot (.cons (.lend 0) (.cons (.lend 8) .nil)))) (.cons (.asg (.nm 12) (.bin .sub (.fc f_law_pick (.cons (.lend 0) (.cons (.int 25) .nil))) (.int 12))) (.cons (.ifs (.or_ (.cons (.cmp .eq (.v .bo 5) (.int 1)) (.cons (.and_ (.cons (.cmp .eq (.v .bo 5) (.int 2)) (.cons (.cmp .gt (.fc f_law_pick (.cons (.lend 0) (.cons (.int 3) .nil))) (.int 0)) .nil))) .nil))) (.cons (.asg (.nm 11) (.tup (.cons (.bin .add (.idx (.v .bo 10) (.int 0)) (.bin .mul (.v .bo 12) (.idx (.v .bo 9) (.int 0)))) (.cons (.bin .add (.idx (.v .bo 10) (.int 1)) (.bin .mul (.v .bo 12) (.idx (.v .bo 9) (.int 1)))) .nil)))) .nil) .nil) (.cons (.ifs (.and_ (.cons (.cmp .notin (.v .bo 11) (.v .bo 7)) (.cons (.cmp .lt (.bi .len (.cons (.v .bo 7) .nil)) (.v .bo 6)) .nil))) (.cons (.app 7 (.v .bo 11)) .nil) .nil) .nil)))) []) (.cons (.asg (.nm 4) (.lc (.tup (.cons (.bin .add (.int 9000) (.v .bo 12)) (.cons (.int 9000) .nil))) (.nm 12) (.rng (.int 24)) (.cmp .notin (.tup (.cons (.bin .add (.int 9000) (.v .bo 12)) (.cons (.int 9000) .nil))) (.v .bo 7)) [12])) (.cons (.ret (.bi .tuple (.cons (.bin .add (.v .bo 7) (.slc (.v .bo 4) .abs_ (.bin .sub (.v .bo 6) (.bi .len (.cons (.v .bo 7) .nil))))) .nil))) .nil)))))))
def n_law_crowd : List Str := ["bag", "least", "most", "turn", "spare", "kind", "many", "dots", "far", "step", "off", "dot", "at"]
def b_law_thirds (f_law_lots : Nat) : S :=
  (.cons (.asg (.nm 1) (.lst .nil)) (.cons (.for_ (.nm 2) (.fc f_law_lots (.cons (.bi .len (.cons (.v .bo 0) .nil)) (.cons (.int 3) .nil))) (.cons (.asg (.nm 3) (.lc (.bin .mod (.bi .int (.cons (.bi .sum (.cons (.lc (.idx (.idx (.v .bo 0) (.v .bo 5)) (.v .bo 4)) (.nm 5) (.v .bo 2) (.bl true) [5]) .nil)) .nil)) (.int 3)) (.nm 4) (.tup (.cons (.int 0) (.cons (.int 1) .nil))) (.bl true) [4])) (.cons (.ext 1 (.ife (.cmp .eq (.v .bo 3) (.lst (.cons (.int 0) (.cons (.int 0) .nil)))) (.lst (.cons (.v .bo 2) .nil)) (.lst .nil))) .nil)) []) (.cons (.ret (.v .mv 1)) .nil)))
def n_law_thirds : List Str := ["crowd", "found", "lot", "left", "axis", "place"]
def b_law_bare (f_law_pick : Nat) (f_law_some : Nat) (f_law_dot : Nat) : S :=
  (.cons (.par 3 1 (.lst .nil) (.lst (.cons (.tup (.cons (.int 0) (.cons (.int 0) .nil))) (.cons (.tup (.cons (.int 0) (.cons (.int 1) .nil))) (.cons (.tup (.cons (.int 1) (.cons (.int 0) .nil))) (.cons (.tup (.cons (.int 1) (.cons (.int 1) .nil))) .nil)))))) (.cons (.asg (.nm 1) (.bin .add (.v .bo 1) (.v .bo 1))) (.cons (.for_ (.nm 2) (.rng (.bin .add (.int 3) (.fc f_law_pick (.cons (.lend 0) (.cons (.int 6) .nil))))) (.cons (.par 5 6 (.pop 1 (.fc f_law_pick (.cons (.lend 0) (.cons (.bi .len (.cons (.v .bo 1) .nil)) .nil)))) (.fc f_law_dot (.cons (.lend 0) (.cons (.fc f_law_some (.cons (.lend 0) (.cons (.lst (.cons (.int 9) (.cons (.int 3000) .nil))) .nil))) .nil)))) (.cons (.asg (.nm 4) (.tup (.cons (.bin .add (.bin .mul (.int 3) (.idx (.v .bo 6) (.int 0))) (.idx (.v .bo 5) (.int 0))) (.cons (.bin .add (.bin .mul (.int 3) (.idx (.v .bo 6) (.int 1))) (.idx (.v .bo 5) (.int 1))) .nil)))) (.cons (.ext 3 (.ife (.cmp .notin (.v .bo 4) (.v .bo 3)) (.lst (.cons (.v .bo 4) .nil)) (.lst .nil))) .nil))) []) (.cons (.ret (.ife (.cmp .gt (.bi .len (.cons (.v .bo 3) .nil)) (.int 2)) (.bi .tuple (.cons (.v .bo 3) .nil)) (.tup (.cons (.tup (.cons (.int 0) (.cons (.int 0) .nil))) (.cons (.tup (.cons (.int 0) (.cons (.int 1) .nil))) (.cons (.tup (.cons (.int 1) (.cons (.int 0) .nil))) .nil)))))) .nil))))
def n_law_bare : List Str := ["bag", "kinds", "turn", "found", "one", "kind", "dot"]
def b_law (f_moved : Nat) (f_third_shown : Nat) (f_thirds_many : Nat) (f_law_bag : Nat) (f_law_some : Nat) (f_law_dot : Nat) (f_law_crowd : Nat) (f_law_thirds : Nat) (f_law_bare : Nat) : S :=
  (.cons (.asg (.nm 1) (.fc f_law_bag (.cons (.lend 0) (.cons (.int 66171) .nil)))) (.cons (.ifs (.cmp .ne (.fc f_third_shown (.cons (.tup (.cons (.tup (.cons (.int 0) (.cons (.int 0) .nil))) (.cons (.tup (.cons (.int 1) (.cons (.int 1) .nil))) (.cons (.tup (.cons (.neg (.int 1)) (.cons (.neg (.int 1)) .nil))) .nil)))) .nil)) (.tup (.cons (.str "three") (.cons (.tup (.cons (.int 0) (.cons (.int 1) (.cons (.int 2) .nil)))) .nil)))) (.cons (.ret (.bl false)) .nil) .nil) (.cons (.ifs (.cmp .ne (.fc f_third_shown (.cons (.tup (.cons (.tup (.cons (.int 0) (.cons (.int 0) .nil))) (.cons (.tup (.cons (.int 0) (.cons (.int 1) .nil))) (.cons (.tup (.cons (.int 1) (.cons (.int 0) .nil))) .nil)))) .nil)) (.tup (.cons (.str "none") .nil))) (.cons (.ret (.bl false)) .nil) .nil) (.cons (.for_ (.nm 2) (.rng (.int 9)) (.cons (.asg (.nm 3) (.fc f_law_some (.cons (.lend 1) (.cons (.lst (.cons (.fc f_law_crowd (.cons (.lend 1) (.cons (.int 3) (.cons (.int 12) .nil)))) (.cons (.fc f_law_bare (.cons (.lend 1) .nil)) .nil))) .nil)))) (.cons (.asg (.nm 4) (.fc f_law_thirds (.cons (.lend 3) .nil))) (.cons (.asg (.nm 5) (.ife (.cmp .ne (.v .bo 4) (.lst .nil)) (.tup (.cons (.str "three") (.cons (.idx (.v .bo 4) (.int 0)) .nil))) (.tup (.cons (.str "none") .nil)))) (.cons (.ifs (.or_ (.cons (.cmp .ne (.bi .repr (.cons (.lst (.cons (.fc f_third_shown (.cons (.lend 3) .nil)) (.cons (.fc f_thirds_many (.cons (.lend 3) .nil)) .nil))) .nil)) (.bi .repr (.cons (.lst (.cons (.v .bo 5) (.cons (.bi .len (.cons (.v .bo 4) .nil)) .nil))) .nil))) (.cons (.and_ (.cons (.cmp .gt (.bi .len (.cons (.v .bo 3) .nil)) (.int 8)) (.cons (.cmp .eq (.v .bo 4) (.lst .nil)) .nil))) .nil))) (.cons (.ret (.bl false)) .nil) .nil) (.cons (.asg (.nm 6) (.fc f_law_dot (.cons (.lend 1) (.cons (.int 20) .nil)))) (.cons (.ifs (.cmp .le (.bi .max (.cons (.lc (.bi .max (.cons (.bi .abs (.cons (.bin .add (.v .bo 7) (.idx (.v .bo 6) (.int 0))) .nil)) (.cons (.bi .abs (.cons (.bin .add (.v .bo 8) (.idx (.v .bo 6) (.int 1))) .nil)) .nil))) (.tp (.cons (.nm 7) (.cons (.nm 8) .nil))) (.v .bo 3) (.bl true) [7, 8]) .nil)) (.int 10000)) (.cons (.ifs (.cmp .ne (.fc f_thirds_many (.cons (.fc f_moved (.cons (.lend 3) (.cons (.lend 6) .nil))) .nil)) (.bi .len (.cons (.v .bo 4) .nil))) (.cons (.ret (.bl false)) .nil) .nil) .nil) .nil) .nil)))))) []) (.cons (.ret (.bl true)) .nil)))))
def n_law : List Str := ["script", "bag", "turn", "crowd", "some", "due", "by", "x", "y"]
end Pur

namespace Pur
open PySem
def bagD (big : List Int) (c s : Int) : D := .lst .own [.lst .own (big.map .int), .int c, .int s]
def IsBag (d : D) : Prop := ∃ big c s, d = bagD big c s
theorem layL_ints : ∀ (n : Nat) (ns : List Int), layL n (ns.map .int) = true
  | n, [] => rfl
  | n, x :: xs => by simp only [List.map_cons, layL, lay, layL_ints n xs]; rfl
theorem lookL_ints : ∀ ns : List Int, lookL (ns.map .int) = ns.map .int
  | [] => rfl
  | x :: xs => by simp only [List.map_cons, lookL, look, lookL_ints xs]
theorem eqv_nil : PyData.eqv (.list []) (.list []) = true := by decide +kernel
theorem eqv_cons (x : PyData) (xs : List PyData) : PyData.eqv (.list (x :: xs)) (.list []) = false := by simp [PyData.eqv, PyData.eqvAll]
theorem eqv_int (i j : Int) : PyData.eqv (.int i) (.int j) = (i == j) := by simp [PyData.eqv]
theorem mulOk_l {i j : Int} (h : small64 i = true) : mulOk i j = true := by simp [mulOk, h]
theorem small_fmod (a : Int) {b : Int} (h : 0 < b) (h2 : b < 2 ^ 64) : small64 (a.fmod b) = true := by
  have h1 := Int.fmod_nonneg_of_pos a h
  have h3 := Int.fmod_lt_of_pos a h
  simp only [small64, decide_eq_true_eq]
  omega
theorem mul1 (a b : Int) : mulOk (a.fmod 2147483647) b = true := mulOk_l (small_fmod a (by decide) (by decide))
theorem mul2 (b : Int) : mulOk 6997 b = true := mulOk_l (by decide)
theorem divOk_of {m : Int} (h1 : 0 < m) (h2 : m < 1073741824) : divOk m = true := by
  simp only [divOk, Bool.or_eq_true, decide_eq_true_eq]
  left
  omega
theorem div1 : divOk 1009 = true := by decide
theorem div2 : divOk 16 = true := by decide
theorem pick_ok (p : Pg) (cal : Cal) (W : Nat) (c s m : Int) (big : List Int) (hm : 0 < m) (h2 : m < 1073741824) : ∃ r b', runF p W cal ⟨"_law_pick", 2, n_law_pick, b_law_pick⟩ [bagD big c s, .int m] = some (.int r, [b', .int m]) ∧ 0 ≤ r ∧ r < m ∧ IsBag b' := by
  have m0 : m ≠ 0 := by omega
  cases big with
  | nil =>
    unfold runF
    simp [b_law_pick, n_law_pick, bagD, evS, evE, evA, evF, cmpS, eqS, idxS, L2.atI, L2.ixN, look, lookL, bor, borL, isP, lay, layL, eqD, py, pyL, eqv_nil, biS, intS, binS, addS, bindT, mul1, mul2, div1, div2, m0, finL, asgs, tgs, frz, frzL]
    exact ⟨_, _, ⟨rfl, rfl⟩, Int.fmod_nonneg_of_pos _ hm, Int.fmod_lt_of_pos _ hm, [], _, _, rfl⟩
  | cons x xs =>
    cases hz : (x.fdiv m == 0) <;> unfold runF
    all_goals simp [hz, bor_ints, b_law_pick, n_law_pick, bagD, evS, evE, evA, evF, cmpS, eqS, idxS, L2.atI, L2.ixN, look, lookL, bor, borL, isP, lay, layL, eqD, py, pyL, eqv_cons, eqv_int, biS, intS, binS, addS, bindT, mul1, mul2, div1, div2, m0, finL, asgs, tgs, frz, frzL, layL_ints, lookL_ints, divOk_of hm h2]
    · exact ⟨_, _, ⟨rfl, rfl⟩, Int.fmod_nonneg_of_pos _ hm, Int.fmod_lt_of_pos _ hm, _ :: xs, c, s, rfl⟩
    · exact ⟨_, _, ⟨rfl, rfl⟩, Int.fmod_nonneg_of_pos _ hm, Int.fmod_lt_of_pos _ hm, xs, c, s, rfl⟩
end Pur

namespace Pur
open PySem
def dotD (q : Int × Int) : D := .tup [.int q.1, .int q.2]
def PickS (cal : Cal) (k : Nat) : Prop := ∀ (b : D) (m : Int), IsBag b → 0 < m → m < 1073741824 → ∃ r b', cal k [b, .int m] = some (.int r, [b', .int m]) ∧ 0 ≤ r ∧ r < m ∧ IsBag b'
def SomeS (cal : Cal) (k : Nat) : Prop := ∀ (b : D) (xs : List D), IsBag b → frzL xs = true → xs ≠ [] → xs.length < 1073741824 → ∃ d b' t, d ∈ xs ∧ cal k [b, .lst .own xs] = some (d, [b', t]) ∧ IsBag b'
def DotS (cal : Cal) (k : Nat) : Prop := ∀ (b : D) (m : Int), IsBag b → 0 ≤ m → m < 100000000 → ∃ q b', cal k [b, .int m] = some (dotD q, [b', .int m]) ∧ IsBag b' ∧ -m ≤ q.1 ∧ q.1 ≤ m ∧ -m ≤ q.2 ∧ q.2 ≤ m
mutual
theorem still1 : ∀ d : D, frz d = true → share d = d ∧ look d = d ∧ bor d = false
  | .non, _ => ⟨rfl, rfl, rfl⟩
  | .bl _, _ => ⟨rfl, rfl, rfl⟩
  | .int _, _ => ⟨rfl, rfl, rfl⟩
  | .str _, _ => ⟨rfl, rfl, rfl⟩
  | .rs _, _ => ⟨rfl, rfl, rfl⟩
  | .tup xs, h => by
    simp only [frz] at h
    obtain ⟨a, b, c⟩ := stillL xs h
    simp [share, look, bor, a, b, c]
  | .lst f xs, h => by
    simp only [frz, Bool.and_eq_true] at h
    obtain ⟨a, b, c⟩ := stillL xs h.2
    cases f <;> simp [Fl.still] at h <;> simp [share, look, bor, a, b, c]
theorem stillL : ∀ ds : List D, frzL ds = true → shareL ds = ds ∧ lookL ds = ds ∧ borL ds = false
  | [], _ => ⟨rfl, rfl, rfl⟩
  | d :: ds, h => by
    simp only [frzL, Bool.and_eq_true] at h
    obtain ⟨a, b, c⟩ := still1 d h.1
    obtain ⟨a', b', c'⟩ := stillL ds h.2
    simp [shareL, lookL, borL, a, b, c, a', b', c']
end
theorem bag_frz {b : D} (h : IsBag b) : frz b = false ∧ bor b = false := by
  obtain ⟨big, c, s, rfl⟩ := h
  simp [bagD, frz, Fl.still, bor, borL, bor_ints]
theorem frz_dot (q : Int × Int) : frz (dotD q) = true := rfl
theorem some_ok {p : Pg} {cal : Cal} {W k : Nat} (hp : PickS cal k) {b : D} {xs : List D} (hb : IsBag b) (hx : frzL xs = true) (hn : xs ≠ []) (hl : xs.length < 1073741824) :
    ∃ d b' t, d ∈ xs ∧ runF p W cal ⟨"_law_some", 2, n_law_some, b_law_some k⟩ [b, .lst .own xs] = some (d, [b', t]) ∧ IsBag b' := by
  have hpos : 0 < xs.length := List.length_pos_iff.mpr hn
  obtain ⟨r, b', e, r0, r1, hb'⟩ := hp b xs.length hb (by omega) (by omega)
  obtain ⟨s1, s2, s3⟩ := stillL xs hx
  have f1 := bag_frz hb
  have f2 := bag_frz hb'
  have hr : r.toNat < xs.length := by omega
  have hd : frz xs[r.toNat] = true := frzL_get hx (by simp [hr] : xs[r.toNat]? = some xs[r.toNat])
  refine ⟨xs[r.toNat], b', .lst .frz xs, List.getElem_mem hr, ?_, hb'⟩
  unfold runF
  simp [b_law_some, n_law_some, evS, evE, evA, evF, share, s1, s2, s3, look, bor, borL, f1, f2, lendOf, lends, fillL, giveL, biS, lenS, e, isP, idxS, L2.atI, L2.ixN, r0, r1, hr, (still1 _ hd).2.2, finL, asgs, frz, Fl.still]
theorem dot_ok {p : Pg} {cal : Cal} {W k : Nat} (hp : PickS cal k) {b : D} {m : Int} (hb : IsBag b) (h0 : 0 ≤ m) (h1 : m < 100000000) :
    ∃ q b', runF p W cal ⟨"_law_dot", 2, n_law_dot, b_law_dot k⟩ [b, .int m] = some (dotD q, [b', .int m]) ∧ IsBag b' ∧ -m ≤ q.1 ∧ q.1 ≤ m ∧ -m ≤ q.2 ∧ q.2 ≤ m := by
  obtain ⟨r, b1, e1, r0, r1, hb1⟩ := hp b (2 * m + 1) hb (by omega) (by omega)
  obtain ⟨s, b2, e2, s0, s1, hb2⟩ := hp b1 (2 * m + 1) hb1 (by omega) (by omega)
  have f0 := bag_frz hb
  have f1 := bag_frz hb1
  have f2 := bag_frz hb2
  refine ⟨(r - m, s - m), b2, ?_, hb2, by simp; omega, by simp; omega, by simp; omega, by simp; omega⟩
  have m2 : mulOk 2 m = true := mulOk_l (by decide)
  unfold runF
  simp [b_law_dot, n_law_dot, evS, evE, evA, evF, look, bor, borL, f0, f1, f2, lendOf, lends, fillL, giveL, e1, e2, isP, binS, addS, m2, finL, asgs, frz, dotD]
theorem area_ok {p : Pg} {cal : Cal} {W : Nat} (a b c : Int × Int) (h : ∀ i j : Int, True) :
    ((∀ i j : Int, -20000 ≤ i → i ≤ 20000 → mulOk i j = true)) := fun i j h1 h2 => mulOk_l (by simp only [small64, decide_eq_true_eq]; omega)
end Pur

namespace Pur
open PySem
/-! loops -/
theorem lcL_flat {f : D → En → Option (List D × En)} {h : D → List D} {ρ : En} : ∀ {items : List D}, (∀ x ∈ items, f x ρ = some (h x, ρ)) → lcL f items ρ = some (items.flatMap h, ρ)
  | [], _ => rfl
  | x :: xs, hf => by
    simp only [lcL, hf x List.mem_cons_self, lcL_flat fun y hy => hf y (List.mem_cons_of_mem _ hy), List.flatMap_cons]
/-- a loop that never breaks, by an invariant on what is done and what is left -/
theorem forL_inv {wp : List Nat} {t : T} {f : En → Option R} (I : List D → En → Prop) : ∀ {items : List D} {ρ : En}, I items ρ → (∀ x xs ρ, I (x :: xs) ρ → ∃ ρ1 ρ2, bindT t x ρ = some ρ1 ∧ (f ρ1 = some (.nx ρ2) ∨ f ρ1 = some (.ct ρ2)) ∧ I xs (wipeD ρ2 wp)) →
    ∃ ρ', forL wp t f items ρ = some (.nx ρ') ∧ I [] ρ'
  | [], ρ, h, _ => ⟨ρ, rfl, h⟩
  | x :: xs, ρ, h, hs => by
    obtain ⟨ρ1, ρ2, e1, e2, h2⟩ := hs x xs ρ h
    obtain ⟨ρ', e3, h3⟩ := forL_inv I h2 hs
    refine ⟨ρ', ?_, h3⟩
    simp only [forL, e1]
    rcases e2 with e2 | e2 <;> simp only [e2, e3]

/-! lots of places -/
def nextI (l : List Int) : Int := match l.getLast? with
  | some j => j + 1
  | none => 0
def rangeI (lo hi : Int) : List Int := (List.range (hi - lo).toNat).map fun k => lo + (k : Nat)
def growI (many : Int) (l : List Int) : List (List Int) := (rangeI (nextI l) many).map fun j => l ++ [j]
def lotsI (many : Int) : Nat → List (List Int)
  | 0 => [[]]
  | n + 1 => (lotsI many n).flatMap (growI many)
def lotD (l : List Int) : D := .tup (l.map .int)
def LotOk (many : Int) (l : List Int) : Prop := l.length ≤ 60 ∧ ∀ j ∈ l, 0 ≤ j ∧ j < many
theorem lay_tup_ints (l : List Int) : lay 60 (.tup (l.map .int)) = true := by simp [lay, layL_ints]
theorem eqv_tnil : PyData.eqv (.tuple []) (.tuple []) = true := by decide +kernel
theorem eqv_tcons (x : PyData) (xs : List PyData) : PyData.eqv (.tuple (x :: xs)) (.tuple []) = false := by simp [PyData.eqv, PyData.eqvAll]
theorem nextI_ok {many : Int} {l : List Int} (h : LotOk many l) (hm : 0 ≤ many) : 0 ≤ nextI l ∧ nextI l ≤ many := by
  unfold nextI
  cases e : l.getLast? with
  | none => exact ⟨Int.le_refl _, hm⟩
  | some j =>
    obtain ⟨h1, h2⟩ := h.2 j (List.mem_of_getLast? e)
    constructor <;> simp <;> omega
theorem grow_ok {many : Int} {l r : List Int} (h : LotOk many l) (hm : 0 ≤ many) (hl : l.length < 60) (hr : r ∈ growI many l) : LotOk many r ∧ r.length = l.length + 1 := by
  unfold growI rangeI at hr
  simp only [List.map_map, List.mem_map, List.mem_range, Function.comp] at hr
  obtain ⟨k, hk, rfl⟩ := hr
  have := nextI_ok h hm
  refine ⟨⟨by simp; omega, fun j hj => ?_⟩, by simp⟩
  rcases List.mem_append.mp hj with z | z
  · exact h.2 j z
  · simp at z
    omega
theorem lots_len {many : Int} (hm : 0 ≤ many) : ∀ {n : Nat}, n ≤ 60 → (∀ l ∈ lotsI many n, LotOk many l ∧ l.length = n) ∧ (lotsI many n).length ≤ many.toNat ^ n
  | 0, _ => by
    refine ⟨fun l hl => ?_, by simp [lotsI]⟩
    simp [lotsI] at hl
    subst hl
    exact ⟨⟨by simp, fun j h => by simp at h⟩, rfl⟩
  | n + 1, hn => by
    obtain ⟨h1, h2⟩ := lots_len hm (n := n) (by omega)
    refine ⟨fun l hl => ?_, ?_⟩
    · simp only [lotsI, List.mem_flatMap] at hl
      obtain ⟨l0, h0, hl⟩ := hl
      obtain ⟨z1, z2⟩ := h1 l0 h0
      obtain ⟨z3, z4⟩ := grow_ok z1 hm (by omega) hl
      exact ⟨z3, by omega⟩
    · simp only [lotsI, List.length_flatMap]
      have : ∀ (L : List (List Int)), (∀ l ∈ L, LotOk many l) → (L.map fun l => (growI many l).length).sum ≤ L.length * many.toNat := by
        intro L
        induction L with
        | nil => intro _; simp
        | cons l L ih =>
          intro h
          simp only [List.map_cons, List.sum_cons, List.length_cons]
          have z := ih fun x hx => h x (List.mem_cons_of_mem _ hx)
          have z2 : (growI many l).length ≤ many.toNat := by
            have := nextI_ok (h l List.mem_cons_self) hm
            simp [growI, rangeI]
            omega
          rw [Nat.add_mul, Nat.one_mul]
          omega
      refine Nat.le_trans (this _ fun l hl => (h1 l hl).1) ?_
      rw [Nat.pow_succ]
      exact Nat.mul_le_mul_right _ h2
end Pur

namespace Pur
open PySem
theorem sizeLine_val : sizeLine = 16777216 := by decide +kernel
theorem eqD_tnil (l : List Int) : eqD (.tup (l.map .int)) (.tup []) = decide (l = []) := by
  cases l with
  | nil => exact eqv_tnil
  | cons x xs => simp [eqD, py, pyL, eqv_tcons]
theorem frz_lot (l : List Int) : frz (lotD l) = true := by simp [lotD, frz, frz_ints]
theorem frz_lots (L : List (List Int)) : frzL (L.map lotD) = true := by
  induction L with
  | nil => rfl
  | cons x xs ih => simp only [List.map_cons, frzL, frz_lot, ih]; rfl
section
variable {gl : List (Str × D)} {cal : Cal} {a b elt it c : E} {t : T} {vs : List Nat} {ρ ρ1 ρ2 : En} {i j : Int}
theorem ev_rng2 (ha : evE gl cal a ρ = some (.int i, ρ1)) (hb : evE gl cal b ρ1 = some (.int j, ρ2)) (h1 : -1000000 ≤ i) (h2 : i ≤ 1000000) (h3 : -1000000 ≤ j) (h4 : j ≤ 1000000) : evE gl cal (.rng2 a b) ρ = some (.tup (rangeD i (j - i).toNat), ρ2) := by
  have sz := sizeLine_val
  simp only [evE, ha, hb]
  rw [if_pos]
  omega
theorem ev_rng (ha : evE gl cal a ρ = some (.int j, ρ1)) (h3 : -1000000 ≤ j) (h4 : j ≤ 1000000) : evE gl cal (.rng a) ρ = some (.tup (rangeD 0 j.toNat), ρ1) := by
  have sz := sizeLine_val
  simp only [evE, ha]
  rw [if_pos]
  omega
def lcF (gl : List (Str × D)) (cal : Cal) (elt : E) (t : T) (c : E) (vs : List Nat) : D → En → Option (List D × En) := fun x ρ => match bindT t x ρ with
  | none => none
  | some ρ2 => match evE gl cal c ρ2 with
    | some (.bl true, ρ3) => (match evE gl cal elt ρ3 with
      | some (y, ρ4) => if bor y then none else some ([y], wipeD ρ4 vs)
      | none => none)
    | some (.bl false, ρ3) => some ([], wipeD ρ3 vs)
    | _ => none
theorem ev_lc {items ys : List D} {kp : D} (hit : evI gl cal it ρ = some (items, kp, ρ1)) (hk : (bor kp && !(isP elt && isP c)) = false) (hl : items.length ≤ 10000000) (ht : (tgs t).all vs.contains = true) (hL : lcL (lcF gl cal elt t c vs) items (wipeD ρ1 vs) = some (ys, ρ2)) :
    evE gl cal (.lc elt t it c vs) ρ = some (.lst .own ys, restore ρ1 vs ρ2) := by
  have sz := sizeLine_val
  unfold evI at hit
  cases e1 : evE gl cal it ρ with
  | none => rw [e1] at hit; cases hit
  | some q =>
    obtain ⟨d0, ρ0⟩ := q
    rw [e1] at hit
    cases e2 : itOf it d0 with
    | none => simp only [e2] at hit; cases hit
    | some q2 =>
      obtain ⟨items', kp'⟩ := q2
      simp only [e2, Option.some.injEq, Prod.mk.injEq] at hit
      obtain ⟨rfl, rfl, rfl⟩ := hit
      simp only [evE, e1, e2]
      rw [if_neg (by rw [hk, ht]; simp; omega)]
      show (match lcL (lcF gl cal elt t c vs) items' (wipeD ρ0 vs) with
        | some (ys, ρ2) => some (D.lst .own ys, restore ρ0 vs ρ2)
        | none => none) = _
      rw [hL]
end
theorem ev_for {gl : List (Str × D)} {cal : Cal} {W : Nat} {it : E} {t : T} {b : S} {wp : List Nat} {ρ ρ1 : En} {items : List D} {kp : D} (hit : evI gl cal it ρ = some (items, kp, ρ1)) (hk : bor kp = false) :
    evS gl cal W (.for_ t it b wp) ρ = forL wp t (evS gl cal W b) items (wipeD ρ1 wp) := by
  simp only [evS, hit, hk]
  rfl
theorem ev_cons {gl : List (Str × D)} {cal : Cal} {W : Nat} {s r : S} {ρ ρ1 : En} (h : evS gl cal W s ρ = some (.nx ρ1)) : evS gl cal W (.cons s r) ρ = evS gl cal W r ρ1 := by
  simp only [evS, h]
theorem lots_step (p : Pg) (cal : Cal) (W : Nat) {many size : Int} {x2 x3 x5 : Option D} {acc : List (List Int)} {l : List Int} (h : LotOk many l) (hm : 0 ≤ many) (h2 : many ≤ 1000) (hl : l.length < 60) (hsz : acc.length + (growI many l).length ≤ 10000000) :
    evS p.gs cal W (.cons (.ext 4 (.lc (.bin .add (.v .bo 5) (.tup (.cons (.v .bo 6) .nil))) (.nm 6) (.rng2 (.ife (.cmp .ne (.v .bo 5) (.tup .nil)) (.bin .add (.idx (.v .bo 5) (.neg (.int 1))) (.int 1)) (.int 0)) (.v .bo 0)) (.bl true) [6])) .nil)
      [some (.int many), some (.int size), x2, x3, some (.lst .own (acc.map lotD)), some (lotD l), none] =
    some (.nx [some (.int many), some (.int size), x2, x3, some (.lst .own ((acc ++ growI many l).map lotD)), some (lotD l), none]) := by
  have hb := (stillL _ (frz_ints l)).2.2
  have hk := (stillL _ (frz_ints l)).2.1
  obtain ⟨n1, n2⟩ := nextI_ok h hm
  have sz := sizeLine_val
  have acc0 := (stillL _ (frz_lots acc)).2.2
  have ife : evE p.gs cal (.ife (.cmp .ne (.v .bo 5) (.tup .nil)) (.bin .add (.idx (.v .bo 5) (.neg (.int 1))) (.int 1)) (.int 0)) [some (.int many), some (.int size), x2, x3, some (.lst .own (acc.map lotD)), some (lotD l), none] =
      some (.int (nextI l), [some (.int many), some (.int size), x2, x3, some (.lst .own (acc.map lotD)), some (lotD l), none]) := by
    cases l with
    | nil => simp [evE, evA, lotD, look, lookL, bor, borL, isP, cmpS, eqS, lay, layL, eqD, py, pyL, eqv_tnil, nextI]
    | cons x xs =>
      have e : (x :: xs).getLast? = some ((x :: xs)[xs.length]) := by rw [List.getLast?_eq_getElem?]; simp
      have g : ((x :: xs).map D.int)[xs.length]? = some (.int ((x :: xs)[xs.length])) := by rw [List.getElem?_map, List.getElem?_eq_getElem (by simp)]; rfl
      have lk : look (lotD (x :: xs)) = lotD (x :: xs) := (still1 _ (frz_lot _)).2.1
      have bo : bor (lotD (x :: xs)) = false := (still1 _ (frz_lot _)).2.2
      have ne : eqD (lotD (x :: xs)) (.tup []) = false := by unfold lotD; rw [eqD_tnil]; simp
      have ly : lay 60 (lotD (x :: xs)) = true := lay_tup_ints _
      have ix : idxS (lotD (x :: xs)) (.int (-1)) = some (.int ((x :: xs)[xs.length])) := by
        unfold lotD idxS L2.atI L2.ixN
        show Option.bind (if (0:Int) ≤ -1 then _ else _) _ = _
        have e1 : ¬ ((0:Int) ≤ -1) := by decide
        have e2 : -(((x :: xs).map D.int).length : Int) ≤ -1 := by simp; omega
        have e3 : (-1 + (((x :: xs).map D.int).length : Int)).toNat = xs.length := by simp; omega
        rw [if_neg e1, if_pos e2]
        simp only [Option.bind_some, e3]
        exact g
      have eqs : eqS (lotD (x :: xs)) (.tup []) = some false := by
        show (if lay 60 (.tup ((x :: xs).map .int)) && lay 60 (.tup []) then some (eqD (.tup ((x :: xs).map .int)) (.tup [])) else none) = _
        rw [lay_tup_ints, eqD_tnil]
        simp [lay, layL]
      simp [evE, evA, lk, bo, isP, cmpS, eqs, ix, binS, addS, nextI, e]
  let ρ : En := [some (.int many), some (.int size), x2, x3, some (.lst .own (acc.map lotD)), some (lotD l), none]
  have lk : look (lotD l) = lotD l := (still1 _ (frz_lot _)).2.1
  have bo : bor (lotD l) = false := (still1 _ (frz_lot _)).2.2
  have rng := ev_rng2 (b := .v .bo 0) (j := many) (ρ2 := ρ) ife (by simp [evE, look, ρ]) (by omega) (by omega) (by omega) (by omega)
  have comp : evE p.gs cal (.lc (.bin .add (.v .bo 5) (.tup (.cons (.v .bo 6) .nil))) (.nm 6) (.rng2 (.ife (.cmp .ne (.v .bo 5) (.tup .nil)) (.bin .add (.idx (.v .bo 5) (.neg (.int 1))) (.int 1)) (.int 0)) (.v .bo 0)) (.bl true) [6]) ρ = some (.lst .own ((growI many l).map lotD), ρ) := by
    have hL : lcL (lcF p.gs cal (.bin .add (.v .bo 5) (.tup (.cons (.v .bo 6) .nil))) (.nm 6) (.bl true) [6]) (rangeD (nextI l) (many - nextI l).toNat) (wipeD ρ [6]) = some ((rangeD (nextI l) (many - nextI l).toNat).flatMap (fun x => [match x with | .int j => lotD (l ++ [j]) | _ => .non]), ρ) := by
      refine lcL_flat fun x hx => ?_
      simp only [rangeD, List.mem_map, List.mem_range] at hx
      obtain ⟨k, hk, rfl⟩ := hx
      have ad : addS (lotD l) (.tup [.int (nextI l + (k : Nat))]) = some (lotD (l ++ [nextI l + (k : Nat)])) := by
        unfold lotD addS
        simp
        omega
      have bo2 := (still1 _ (frz_lot (l ++ [nextI l + (k : Nat)]))).2.2
      simp [lcF, ρ, wipeD, bindT, bor, evE, evA, lk, bo, look, isP, binS, ad, bo2]
    have := ev_lc (elt := .bin .add (.v .bo 5) (.tup (.cons (.v .bo 6) .nil))) (c := .bl true) (t := .nm 6) (vs := [6]) (kp := .non) (by unfold evI; rw [rng]; rfl) (by simp [bor]) (by simp [rangeD]; omega) (by simp [tgs]) hL
    rw [this]
    simp [restore, ρ, growI, rangeI, rangeD, List.flatMap_map, Function.comp_def]
    rw [List.map_eq_flatMap]
  have grow0 : borL ((growI many l).map lotD) = false := (stillL _ (frz_lots _)).2.2
  simp only [ρ] at comp
  have le : acc.length + (growI many l).length ≤ sizeLine := by omega
  simp [evS, comp, grow0, le]

/-- _law_lots -/
theorem lots_ok (p : Pg) (cal : Cal) (W : Nat) {many : Int} {size : Nat} (hm : 0 ≤ many) (h2 : many ≤ 1000) (hs : size ≤ 50) (hb : ∀ n ≤ size, many.toNat ^ n ≤ 10000000) :
    runF p W cal ⟨"_law_lots", 2, n_law_lots, b_law_lots⟩ [.int many, .int size] = some (.lst .own ((lotsI many size).map lotD), [.int many, .int size]) := by
  let bd : S := .cons (.asg (.nm 4) (.lst .nil)) (.cons (.for_ (.nm 5) (.v .fz 2) (.cons (.ext 4 (.lc (.bin .add (.v .bo 5) (.tup (.cons (.v .bo 6) .nil))) (.nm 6) (.rng2 (.ife (.cmp .ne (.v .bo 5) (.tup .nil)) (.bin .add (.idx (.v .bo 5) (.neg (.int 1))) (.int 1)) (.int 0)) (.v .bo 0)) (.bl true) [6])) .nil) []) (.cons (.asg (.nm 2) (.v .mv 4)) .nil))
  have inner : ∀ (n : Nat) (x3 x4 x5 : Option D), n + 1 ≤ size → ∃ x4' x5', evS p.gs cal W bd [some (.int many), some (.int size), some (.lst .own ((lotsI many n).map lotD)), x3, x4, x5, none] =
      some (.nx [some (.int many), some (.int size), some (.lst .own ((lotsI many (n + 1)).map lotD)), x3, x4', x5', none]) := by
    intro n x3 x4 x5 hn
    obtain ⟨k1, k2⟩ := lots_len hm (n := n) (by omega)
    obtain ⟨k3, k4⟩ := lots_len hm (n := n + 1) (by omega)
    have kb := hb (n + 1) hn
    obtain ⟨s1, s2, s3⟩ := stillL _ (frz_lots (lotsI many n))
    let I : List D → En → Prop := fun items ρ => ∃ (rest done : List (List Int)) (x5 : Option D), items = rest.map lotD ∧ done ++ rest = lotsI many n ∧
      ρ = [some (.int many), some (.int size), some (.lst .frz ((lotsI many n).map lotD)), x3, some (.lst .own ((done.flatMap (growI many)).map lotD)), x5, none]
    obtain ⟨ρ', e1, rest, done, x5', e2, e3, rfl⟩ := forL_inv (wp := []) (t := .nm 5) (f := evS p.gs cal W (.cons (.ext 4 (.lc (.bin .add (.v .bo 5) (.tup (.cons (.v .bo 6) .nil))) (.nm 6) (.rng2 (.ife (.cmp .ne (.v .bo 5) (.tup .nil)) (.bin .add (.idx (.v .bo 5) (.neg (.int 1))) (.int 1)) (.int 0)) (.v .bo 0)) (.bl true) [6])) .nil)) I
      (items := (lotsI many n).map lotD) (ρ := [some (.int many), some (.int size), some (.lst .frz ((lotsI many n).map lotD)), x3, some (.lst .own []), x5, none])
      ⟨lotsI many n, [], x5, rfl, rfl, rfl⟩ (by
        rintro x xs ρ ⟨rest, done, y5, q1, q2, rfl⟩
        cases rest with
        | nil => cases q1
        | cons l rest =>
          simp only [List.map_cons, List.cons.injEq] at q1
          obtain ⟨rfl, rfl⟩ := q1
          have hl := k1 l (by rw [← q2]; simp)
          have hsz : (done.flatMap (growI many)).length + (growI many l).length ≤ 10000000 := by
            have : (lotsI many (n + 1)).length = (done.flatMap (growI many)).length + ((growI many l).length + (rest.flatMap (growI many)).length) := by
              simp only [lotsI, ← q2, List.flatMap_append, List.flatMap_cons, List.length_append]
            omega
          have st := lots_step p cal W (many := many) (size := size) (x2 := some (.lst .frz ((lotsI many n).map lotD))) (x3 := x3) (x5 := none) (acc := done.flatMap (growI many)) (l := l) hl.1 hm h2 (by omega) hsz
          refine ⟨_, _, ?_, .inl st, rest, done ++ [l], some (lotD l), rfl, by simp [q2], ?_⟩
          · simp [bindT, (still1 _ (frz_lot l)).2.2]
          · simp [wipeD])
    have er : rest = [] := by cases rest with
      | nil => rfl
      | cons _ _ => cases e2
    subst er
    rw [List.append_nil] at e3
    subst e3
    refine ⟨none, x5', ?_⟩
    have g0 : borL ((lotsI many (n + 1)).map lotD) = false := (stillL _ (frz_lots _)).2.2
    have g1 : frzL ((lotsI many n).map lotD) = true := frz_lots _
    simp only [lotsI] at g0
    have h1 : evS p.gs cal W (.asg (.nm 4) (.lst .nil)) [some (.int many), some (.int size), some (.lst .own ((lotsI many n).map lotD)), x3, x4, x5, none] =
        some (.nx [some (.int many), some (.int size), some (.lst .own ((lotsI many n).map lotD)), x3, some (.lst .own []), x5, none]) := by simp [evS, evE, evA, bindT, bor, borL]
    have h2' : evI p.gs cal (.v .fz 2) [some (.int many), some (.int size), some (.lst .own ((lotsI many n).map lotD)), x3, some (.lst .own []), x5, none] =
        some ((lotsI many n).map lotD, .lst .frz ((lotsI many n).map lotD), [some (.int many), some (.int size), some (.lst .frz ((lotsI many n).map lotD)), x3, some (.lst .own []), x5, none]) := by
      simp [evI, evE, share, s1, itOf, seqOf, g1]
    have h3 := (ev_for (cal := cal) (W := W) (t := .nm 5) (b := .cons (.ext 4 (.lc (.bin .add (.v .bo 5) (.tup (.cons (.v .bo 6) .nil))) (.nm 6) (.rng2 (.ife (.cmp .ne (.v .bo 5) (.tup .nil)) (.bin .add (.idx (.v .bo 5) (.neg (.int 1))) (.int 1)) (.int 0)) (.v .bo 0)) (.bl true) [6])) .nil) (wp := []) h2' (by simp [bor, s3])).trans e1
    show evS p.gs cal W (.cons _ _) _ = _
    rw [ev_cons h1, ev_cons h3]
    simp [evS, evE, bindT, bor, g0, lotsI]
  let I : List D → En → Prop := fun items ρ => ∃ (n : Nat) (x3 x4 x5 : Option D), n + items.length = size ∧ (∀ x ∈ items, bor x = false) ∧
    ρ = [some (.int many), some (.int size), some (.lst .own ((lotsI many n).map lotD)), x3, x4, x5, none]
  obtain ⟨ρ', e1, n, x3, x4, x5, e2, _, rfl⟩ := forL_inv (wp := []) (t := .nm 3) (f := evS p.gs cal W bd) I (items := rangeD 0 size)
    (ρ := [some (.int many), some (.int size), some (.lst .own ((lotsI many 0).map lotD)), none, none, none, none])
    ⟨0, none, none, none, by simp [rangeD], fun x hx => by
      simp only [rangeD, List.mem_map] at hx
      obtain ⟨k, _, rfl⟩ := hx
      rfl, rfl⟩ (by
      rintro x xs ρ ⟨n, x3, x4, x5, q1, q2, rfl⟩
      obtain ⟨x4', x5', st⟩ := inner n (some x) x4 x5 (by simp at q1; omega)
      refine ⟨_, _, ?_, .inl st, n + 1, some x, x4', x5', by simp at q1; omega, fun y hy => q2 y (List.mem_cons_of_mem _ hy), by simp [wipeD]⟩
      simp [bindT, q2 x List.mem_cons_self])
  have en : n = size := by simpa using e2
  subst en
  have h1 : evS p.gs cal W (.asg (.nm 2) (.lst (.cons (.tup .nil) .nil))) [some (.int many), some (.int n), none, none, none, none, none] =
      some (.nx [some (.int many), some (.int n), some (.lst .own ((lotsI many 0).map lotD)), none, none, none, none]) := by simp [evS, evE, evA, bindT, bor, borL, lotsI, lotD]
  have h2' : evI p.gs cal (.rng (.v .bo 1)) [some (.int many), some (.int n), some (.lst .own ((lotsI many 0).map lotD)), none, none, none, none] =
      some (rangeD 0 n, .non, [some (.int many), some (.int n), some (.lst .own ((lotsI many 0).map lotD)), none, none, none, none]) := by
    unfold evI
    rw [ev_rng (a := .v .bo 1) (j := n) (ρ1 := [some (.int many), some (.int n), some (.lst .own ((lotsI many 0).map lotD)), none, none, none, none]) (by simp [evE, look]) (by omega) (by omega)]
    simp [itOf]
  have h3 := (ev_for (cal := cal) (W := W) (t := .nm 3) (b := bd) (wp := []) h2' rfl).trans e1
  have g0 : borL ((lotsI many n).map lotD) = false := (stillL _ (frz_lots _)).2.2
  have hb' : evS p.gs cal W b_law_lots [some (.int many), some (.int n), none, none, none, none, none] = some (.rt (.lst .own ((lotsI many n).map lotD)) [some (.int many), some (.int n), none, x3, x4, x5, none]) := by
    show evS p.gs cal W (.cons _ (.cons (.for_ (.nm 3) (.rng (.v .bo 1)) bd []) _)) _ = _
    rw [ev_cons h1, ev_cons h3]
    simp [evS, evE, bor, g0]
  unfold runF
  simp [n_law_lots, borL, bor, hb', finL, frz]
end Pur

namespace Pur
open PySem
theorem lcL_inv {f : D → En → Option (List D × En)} (I : List D → List D → En → Prop) : ∀ {items out : List D} {ρ : En}, I items out ρ → (∀ x xs out ρ, I (x :: xs) out ρ → ∃ o ρ2, f x ρ = some (o, ρ2) ∧ I xs (out ++ o) ρ2) →
    ∃ ys ρ', lcL f items ρ = some (ys, ρ') ∧ I [] (out ++ ys) ρ'
  | [], out, ρ, h, _ => ⟨[], ρ, rfl, by simpa using h⟩
  | x :: xs, out, ρ, h, hs => by
    obtain ⟨o, ρ2, e, h2⟩ := hs x xs out ρ h
    obtain ⟨ys, ρ', e3, h3⟩ := lcL_inv I h2 hs
    refine ⟨o ++ ys, ρ', ?_, by rw [← List.append_assoc]; exact h3⟩
    simp only [lcL, e, e3]
theorem frz_dots (L : List (Int × Int)) : frzL (L.map dotD) = true := by
  induction L with
  | nil => rfl
  | cons x xs ih => simp only [List.map_cons, frzL, frz_dot, ih]; rfl
theorem ev_pop {gl : List (Str × D)} {cal : Cal} {i : Nat} {k : E} {ρ ρ1 : En} {xs : List D} {j : Nat} {x : D} {xs0 : List D} (h0 : ρ[i]? = some (some (.lst .own xs0))) (hk : evE gl cal k ρ = some (.int (j : Nat), ρ1)) (h1 : ρ1[i]? = some (some (.lst .own xs))) (hx : xs[j]? = some x) (hj : j < 1000000) :
    evE gl cal (.pop i k) ρ = some (x, ρ1.set i (some (.lst .own (xs.eraseIdx j)))) := by
  have hl : j < xs.length := (List.getElem?_eq_some_iff.mp hx).1
  have e : L2.ixN xs.length (j : Nat) = some j := by
    unfold L2.ixN
    rw [if_pos (by omega), if_pos (by omega)]
    simp
  simp only [evE, h0, hk, h1, e, hx]
  rw [if_pos]
  omega
theorem lcF_true {gl : List (Str × D)} {cal : Cal} {elt : E} {t : T} {vs : List Nat} {x y : D} {ρ ρ2 ρ4 : En} (h1 : bindT t x ρ = some ρ2) (h2 : evE gl cal elt ρ2 = some (y, ρ4)) (h3 : bor y = false) : lcF gl cal elt t (.bl true) vs x ρ = some ([y], wipeD ρ4 vs) := by
  simp only [lcF, h1]
  show (match evE gl cal elt ρ2 with
    | some (y, ρ4) => if bor y then none else some ([y], wipeD ρ4 vs)
    | none => none) = _
  rw [h2]
  simp [h3]
theorem map_erase {α β : Type} (f : α → β) : ∀ (l : List α) (j : Nat), (l.map f).eraseIdx j = (l.eraseIdx j).map f
  | [], j => rfl
  | x :: xs, 0 => rfl
  | x :: xs, j + 1 => by simp [map_erase f xs j]
theorem perm_erase {α : Type} : ∀ {l : List α} {j : Nat} (h : j < l.length), (l[j] :: l.eraseIdx j).Perm l
  | x :: xs, 0, _ => .refl _
  | x :: xs, j + 1, h => by
    simp only [List.getElem_cons_succ, List.eraseIdx_cons_succ]
    exact (List.Perm.swap _ _ _).trans (List.Perm.cons x (perm_erase (by simpa using h)))
/-- the draws of a list, one after another, by pop -/
theorem pops_ok {gl : List (Str × D)} {cal : Cal} {kp : Nat} (hp : PickS cal kp) {many : Nat} {x3 x4 x5 x6 x7 : Option D} : ∀ {m : Nat} {b : D} {rest : List (Int × Int)}, IsBag b → m ≤ rest.length → rest.length < 1000 →
    ∃ (taken rest' : List (Int × Int)) (b' : D), lcL (lcF gl cal (.pop 2 (.fc kp (.cons (.lend 0) (.cons (.bi .len (.cons (.v .bo 2) .nil)) .nil)))) (.nm 8) (.bl true) [8]) (rangeD 0 m) [some b, some (.int many), some (.lst .own (rest.map dotD)), x3, x4, x5, x6, x7, none] =
      some (taken.map dotD, [some b', some (.int many), some (.lst .own (rest'.map dotD)), x3, x4, x5, x6, x7, none]) ∧ IsBag b' ∧ taken.length = m ∧ (taken ++ rest').Perm rest := by
  intro m b rest hb hm hl
  let I : List D → List D → En → Prop := fun items out ρ => ∃ (taken rest' : List (Int × Int)) (b' : D), out = taken.map dotD ∧ ρ = [some b', some (.int many), some (.lst .own (rest'.map dotD)), x3, x4, x5, x6, x7, none] ∧ IsBag b' ∧
    taken.length + items.length = m ∧ (taken ++ rest').Perm rest ∧ ∀ x ∈ items, bor x = false
  obtain ⟨ys, ρ', e1, taken, rest', b', e2, rfl, hb', e3, e4, _⟩ := lcL_inv (f := lcF gl cal (.pop 2 (.fc kp (.cons (.lend 0) (.cons (.bi .len (.cons (.v .bo 2) .nil)) .nil)))) (.nm 8) (.bl true) [8]) I (items := rangeD 0 m) (out := [])
    (ρ := [some b, some (.int many), some (.lst .own (rest.map dotD)), x3, x4, x5, x6, x7, none])
    ⟨[], rest, b, rfl, rfl, hb, by simp [rangeD], .refl _, fun x hx => by
      simp only [rangeD, List.mem_map] at hx
      obtain ⟨k, _, rfl⟩ := hx
      rfl⟩ (by
      rintro x xs out ρ ⟨taken, rest', b', q1, rfl, hb', q3, q4, q5⟩
      have ln := q4.length_eq
      simp only [List.length_append, List.length_cons] at ln q3
      obtain ⟨r, b2, ep, r0, r1, hb2⟩ := hp b' rest'.length hb' (by omega) (by omega)
      obtain ⟨j, rfl⟩ := Int.eq_ofNat_of_zero_le r0
      have hj : j < rest'.length := by omega
      obtain ⟨s1, s2, s3⟩ := stillL _ (frz_dots rest')
      have f1 := bag_frz hb'
      have f2 := bag_frz hb2
      have hk : evE gl cal (.fc kp (.cons (.lend 0) (.cons (.bi .len (.cons (.v .bo 2) .nil)) .nil))) [some b', some (.int many), some (.lst .own (rest'.map dotD)), x3, x4, x5, x6, x7, some x] =
          some (.int (j : Nat), [some b2, some (.int many), some (.lst .own (rest'.map dotD)), x3, x4, x5, x6, x7, some x]) := by
        simp [evE, evF, evA, lendOf, lends, look, s2, bor, s3, borL, biS, lenS, fillL, giveL, f1, f2, ep, isP]
      have pp := ev_pop (gl := gl) (i := 2) (x := dotD rest'[j]) rfl hk (xs := rest'.map dotD) rfl (by simp [hj]) (by omega)
      have bx := q5 x List.mem_cons_self
      refine ⟨[dotD rest'[j]], _, ?_, taken ++ [rest'[j]], rest'.eraseIdx j, b2, by simp [q1], rfl, hb2, by simp; omega, ?_, fun y hy => q5 y (List.mem_cons_of_mem _ hy)⟩
      · have bd : bor (dotD rest'[j]) = false := rfl
        refine (lcF_true (ρ2 := [some b', some (.int many), some (.lst .own (rest'.map dotD)), x3, x4, x5, x6, x7, some x]) (by simp [bindT, bx]) pp bd).trans ?_
        simp [wipeD, map_erase]
      · refine List.Perm.trans ?_ q4
        rw [List.append_assoc]
        refine List.Perm.append_left _ ?_
        rw [List.singleton_append]
        exact perm_erase hj)
  refine ⟨taken, rest', b', ?_, hb', by simpa using e3, e4⟩
  rw [List.nil_append] at e2
  rw [← e2]
  exact e1
end Pur

namespace Pur
open PySem
def bow0 (many : Nat) : List (Int × Int) := (List.range many).map fun k => (-3 + (k : Nat), (-3 + (k : Nat)) * (-3 + (k : Nat)))
def bow1 (s : Int) (q : Int × Int) (many : Nat) : List (Int × Int) := (bow0 many).map fun z => (z.1 + q.1, z.2 + s * z.1 + q.2)
theorem bow_s1 {p : Pg} {cal : Cal} {W kp kd : Nat} (hp : PickS cal kp) (hd : DotS cal kd) {b : D} {many : Nat} (hb : IsBag b) :
    ∃ r q b', evS p.gs cal W (.asg (.tp (.cons (.nm 3) (.cons (.nm 4) .nil))) (.tup (.cons (.bin .sub (.fc kp (.cons (.lend 0) (.cons (.int 7) .nil))) (.int 3)) (.cons (.fc kd (.cons (.lend 0) (.cons (.int 40) .nil))) .nil)))) [some b, some (.int many), none, none, none, none, none, none, none] =
      some (.nx [some b', some (.int many), none, some (.int r), some (dotD q), none, none, none, none]) ∧ IsBag b' ∧ -3 ≤ r ∧ r ≤ 3 ∧ -40 ≤ q.1 ∧ q.1 ≤ 40 ∧ -40 ≤ q.2 ∧ q.2 ≤ 40 := by
  obtain ⟨r, b1, e1, r0, r1, hb1⟩ := hp b 7 hb (by omega) (by omega)
  obtain ⟨q, b2, e2, hb2, q1, q2, q3, q4⟩ := hd b1 40 hb1 (by omega) (by omega)
  have f0 := bag_frz hb
  have f1 := bag_frz hb1
  have f2 := bag_frz hb2
  refine ⟨r - 3, q, b2, ?_, hb2, by omega, by omega, q1, q2, q3, q4⟩
  simp [evS, evE, evA, evF, lendOf, lends, fillL, giveL, f0, f1, f2, e1, e2, bor, borL, isP, binS, bindT, bindTs, dotD]
theorem bow_s2 {gl : List (Str × D)} {cal : Cal} {b : D} {many : Nat} {x2 x3 x4 x6 x7 x8 : Option D} (hm : many ≤ 1000) :
    evE gl cal (.lc (.tup (.cons (.v .bo 5) (.cons (.bin .mul (.v .bo 5) (.v .bo 5)) .nil))) (.nm 5) (.rng2 (.neg (.int 3)) (.bin .sub (.v .bo 1) (.int 3))) (.bl true) [5]) [some b, some (.int many), x2, x3, x4, none, x6, x7, x8] =
      some (.lst .own ((bow0 many).map dotD), [some b, some (.int many), x2, x3, x4, none, x6, x7, x8]) := by
  have rng := ev_rng2 (gl := gl) (cal := cal) (a := .neg (.int 3)) (b := .bin .sub (.v .bo 1) (.int 3)) (i := -3) (j := (many : Int) - 3) (ρ := [some b, some (.int many), x2, x3, x4, none, x6, x7, x8]) (ρ1 := [some b, some (.int many), x2, x3, x4, none, x6, x7, x8]) (ρ2 := [some b, some (.int many), x2, x3, x4, none, x6, x7, x8])
    (by simp [evE]) (by simp [evE, look, bor, binS]) (by omega) (by omega) (by omega) (by omega)
  have hL : lcL (lcF gl cal (.tup (.cons (.v .bo 5) (.cons (.bin .mul (.v .bo 5) (.v .bo 5)) .nil))) (.nm 5) (.bl true) [5]) (rangeD (-3) ((many : Int) - 3 - -3).toNat) (wipeD [some b, some (.int many), x2, x3, x4, none, x6, x7, x8] [5]) =
      some ((rangeD (-3) ((many : Int) - 3 - -3).toNat).flatMap (fun x => [match x with | .int j => dotD (j, j * j) | _ => .non]), [some b, some (.int many), x2, x3, x4, none, x6, x7, x8]) := by
    refine lcL_flat fun x hx => ?_
    simp only [rangeD, List.mem_map, List.mem_range] at hx
    obtain ⟨k, hk, rfl⟩ := hx
    have mu : mulOk (-3 + (k : Nat)) (-3 + (k : Nat)) = true := mulOk_l (by simp only [small64, decide_eq_true_eq]; omega)
    simp [lcF, wipeD, bindT, bor, borL, evE, evA, look, isP, binS, mu, dotD]
  rw [ev_lc (kp := .non) (by unfold evI; rw [rng]; rfl) (by simp [bor]) (by simp [rangeD]; omega) (by simp [tgs]) hL]
  simp [restore, rangeD, bow0, List.flatMap_map, Function.comp_def]
  rw [List.map_eq_flatMap]
theorem bow_s3 {gl : List (Str × D)} {cal : Cal} {b : D} {many : Nat} {s : Int} {q : Int × Int} {x5 x8 : Option D} (hm : many ≤ 1000) (hs : -3 ≤ s) (hs2 : s ≤ 3) :
    evE gl cal (.lc (.tup (.cons (.bin .add (.v .bo 6) (.idx (.v .bo 4) (.int 0))) (.cons (.bin .add (.bin .add (.v .bo 7) (.bin .mul (.v .bo 3) (.v .bo 6))) (.idx (.v .bo 4) (.int 1))) .nil))) (.tp (.cons (.nm 6) (.cons (.nm 7) .nil))) (.v .bo 2) (.bl true) [6, 7])
      [some b, some (.int many), some (.lst .own ((bow0 many).map dotD)), some (.int s), some (dotD q), x5, none, none, x8] =
      some (.lst .own ((bow1 s q many).map dotD), [some b, some (.int many), some (.lst .own ((bow0 many).map dotD)), some (.int s), some (dotD q), x5, none, none, x8]) := by
  obtain ⟨s1, s2, s3⟩ := stillL _ (frz_dots (bow0 many))
  have g1 := frz_dots (bow0 many)
  have hL : lcL (lcF gl cal (.tup (.cons (.bin .add (.v .bo 6) (.idx (.v .bo 4) (.int 0))) (.cons (.bin .add (.bin .add (.v .bo 7) (.bin .mul (.v .bo 3) (.v .bo 6))) (.idx (.v .bo 4) (.int 1))) .nil))) (.tp (.cons (.nm 6) (.cons (.nm 7) .nil))) (.bl true) [6, 7]) ((bow0 many).map dotD)
      (wipeD [some b, some (.int many), some (.lst .own ((bow0 many).map dotD)), some (.int s), some (dotD q), x5, none, none, x8] [6, 7]) =
      some (((bow0 many).map dotD).flatMap (fun x => [match x with | .tup [.int u, .int v] => dotD (u + q.1, v + s * u + q.2) | _ => .non]), [some b, some (.int many), some (.lst .own ((bow0 many).map dotD)), some (.int s), some (dotD q), x5, none, none, x8]) := by
    refine lcL_flat fun x hx => ?_
    simp only [List.mem_map] at hx
    obtain ⟨z, hz, rfl⟩ := hx
    have mu : mulOk s z.1 = true := mulOk_l (by simp only [small64, decide_eq_true_eq]; omega)
    simp [lcF, wipeD, bindT, bindTs, bor, borL, evE, evA, look, lookL, isP, binS, addS, idxS, L2.atI, L2.ixN, mu, dotD]
  rw [ev_lc (kp := .lst .bor ((bow0 many).map dotD)) (by unfold evI; simp [evE, look, s2, itOf, seqOf, g1]) (by simp [isP]) (by simp [bow0]; omega) (by simp [tgs]) hL]
  simp [restore, bow1, List.flatMap_map, Function.comp_def, dotD]
  rw [List.map_eq_flatMap]
end Pur

namespace Pur
open PySem
def crowdD (ds : List (Int × Int)) : D := .tup (ds.map dotD)
/-- a crowd of dots that stand apart, none beyond the edge -/
structure Cr (ds : List (Int × Int)) : Prop where
  nd : ds.Nodup
  far : ∀ q ∈ ds, -10000 ≤ q.1 ∧ q.1 ≤ 10000 ∧ -10000 ≤ q.2 ∧ q.2 ≤ 10000
theorem bow1_ok {s : Int} {q : Int × Int} {many : Nat} (hm : many ≤ 60) (hs : -3 ≤ s) (hs2 : s ≤ 3) (h1 : -40 ≤ q.1) (h2 : q.1 ≤ 40) (h3 : -40 ≤ q.2) (h4 : q.2 ≤ 40) : Cr (bow1 s q many) ∧ (bow1 s q many).length = many := by
  have key : ∀ z ∈ bow1 s q many, ∃ k : Nat, k < many ∧ z = (-3 + (k : Int) + q.1, (-3 + (k : Int)) * (-3 + (k : Int)) + s * (-3 + (k : Int)) + q.2) := by
    intro z hz
    simp only [bow1, bow0, List.map_map, List.mem_map, List.mem_range, Function.comp] at hz
    obtain ⟨k, hk, rfl⟩ := hz
    exact ⟨k, hk, rfl⟩
  refine ⟨⟨?_, fun z hz => ?_⟩, by simp [bow1, bow0]⟩
  · unfold bow1 bow0
    rw [List.map_map]
    refine List.Pairwise.map _ (fun a b h => ?_) (List.nodup_range (n := many))
    simp only [Function.comp, ne_eq, Prod.mk.injEq]
    omega
  · obtain ⟨k, hk, rfl⟩ := key z hz
    have e1 : -3 ≤ (-3 + (k : Int)) := by omega
    have e2 : (-3 + (k : Int)) ≤ 57 := by omega
    generalize (-3 + (k : Int)) = t at e1 e2
    have a1 : 0 ≤ t * t := by
      rcases Int.le_total 0 t with h | h
      · exact Int.mul_nonneg h h
      · exact Int.mul_nonneg_of_nonpos_of_nonpos h h
    have a2 : t * t ≤ 57 * 57 := by
      have : t * t ≤ 57 * 57 := by
        rcases Int.le_total 0 t with h | h
        · exact Int.mul_le_mul e2 e2 h (by omega)
        · have h3 : (-t) * (-t) ≤ 57 * 57 := Int.mul_le_mul (by omega) (by omega) (by omega) (by omega)
          have h5 : (-t) * (-t) = t * t := Int.neg_mul_neg t t
          omega
      exact this
    have a3 : -200 ≤ s * t ∧ s * t ≤ 200 := by
      have hcases : s = -3 ∨ s = -2 ∨ s = -1 ∨ s = 0 ∨ s = 1 ∨ s = 2 ∨ s = 3 := by omega
      rcases hcases with rfl | rfl | rfl | rfl | rfl | rfl | rfl <;> omega
    simp only
    omega
theorem ev_ret {gl : List (Str × D)} {cal : Cal} {W : Nat} {e : E} {d : D} {ρ ρ1 : En} (h : evE gl cal e ρ = some (d, ρ1)) (hb : bor d = false) : evS gl cal W (.ret e) ρ = some (.rt d ρ1) := by
  simp [evS, h, hb]
theorem ev_cons_rt {gl : List (Str × D)} {cal : Cal} {W : Nat} {s r : S} {d : D} {ρ ρ1 : En} (h : evS gl cal W s ρ = some (.rt d ρ1)) : evS gl cal W (.cons s r) ρ = some (.rt d ρ1) := by
  simp only [evS, h]
theorem bow_ok {p : Pg} {cal : Cal} {W kp kd : Nat} (hp : PickS cal kp) (hd : DotS cal kd) {b : D} {many : Nat} (hb : IsBag b) (hm : many ≤ 60) :
    ∃ ds b', runF p W cal ⟨"_law_bow", 2, n_law_bow, b_law_bow kp kd⟩ [b, .int many] = some (crowdD ds, [b', .int many]) ∧ IsBag b' ∧ Cr ds ∧ ds.length = many := by
  obtain ⟨s, q, b1, e1, hb1, s1, s2, q1, q2, q3, q4⟩ := bow_s1 (p := p) (cal := cal) (W := W) hp hd (many := many) hb
  obtain ⟨c1, c2⟩ := bow1_ok (many := many) hm s1 s2 q1 q2 q3 q4
  obtain ⟨taken, rest', b2, e4, hb2, t1, t2⟩ := pops_ok (gl := p.gs) (cal := cal) hp (many := many) (x3 := some (.int s)) (x4 := some (dotD q)) (x5 := none) (x6 := none) (x7 := none) (m := many) (rest := bow1 s q many) hb1 (by omega) (by omega)
  have tk : rest' = [] := by
    have := t2.length_eq
    simp at this
    exact List.length_eq_zero_iff.mp (by omega)
  subst tk
  rw [List.append_nil] at t2
  refine ⟨taken, b2, ?_, hb2, ⟨t2.nodup_iff.mpr c1.nd, fun z hz => c1.far z (t2.mem_iff.mp hz)⟩, t1⟩
  have e2 := bow_s2 (gl := p.gs) (cal := cal) (b := b1) (many := many) (x2 := none) (x3 := some (.int s)) (x4 := some (dotD q)) (x6 := none) (x7 := none) (x8 := none) (by omega)
  have e3 := bow_s3 (gl := p.gs) (cal := cal) (b := b1) (many := many) (s := s) (q := q) (x5 := none) (x8 := none) (by omega) s1 s2
  have rng := ev_rng (gl := p.gs) (cal := cal) (a := .v .bo 1) (j := (many : Int)) (ρ := [some b1, some (.int many), some (.lst .own ((bow1 s q many).map dotD)), some (.int s), some (dotD q), none, none, none, none]) (ρ1 := [some b1, some (.int many), some (.lst .own ((bow1 s q many).map dotD)), some (.int s), some (dotD q), none, none, none, none]) (by simp [evE, look]) (by omega) (by omega)
  have lc := ev_lc (gl := p.gs) (cal := cal) (elt := .pop 2 (.fc kp (.cons (.lend 0) (.cons (.bi .len (.cons (.v .bo 2) .nil)) .nil)))) (c := .bl true) (t := .nm 8) (vs := [8]) (kp := .non) (it := .rng (.v .bo 1)) (items := rangeD 0 many) (ρ := [some b1, some (.int many), some (.lst .own ((bow1 s q many).map dotD)), some (.int s), some (dotD q), none, none, none, none]) (ρ1 := [some b1, some (.int many), some (.lst .own ((bow1 s q many).map dotD)), some (.int s), some (dotD q), none, none, none, none]) (by unfold evI; rw [rng]; simp [itOf]) (by simp [bor]) (by simp [rangeD]; omega) (by simp [tgs]) e4
  have bx : borL ((bow0 many).map dotD) = false := (stillL _ (frz_dots _)).2.2
  have by' : borL ((bow1 s q many).map dotD) = false := (stillL _ (frz_dots _)).2.2
  have bz : borL (taken.map dotD) = false := (stillL _ (frz_dots _)).2.2
  have f0 := bag_frz hb
  have f2 := bag_frz hb2
  have body : evS p.gs cal W (b_law_bow kp kd) [some b, some (.int many), none, none, none, none, none, none, none] = some (.rt (crowdD taken) [some b2, some (.int many), some (.lst .own []), some (.int s), some (dotD q), none, none, none, none]) := by
    show evS p.gs cal W (.cons _ (.cons (.asg (.nm 2) _) (.cons (.asg (.nm 2) _) (.cons (.ret (.bi .tuple (.cons _ .nil))) .nil)))) _ = _
    rw [ev_cons e1]
    rw [ev_cons (ρ1 := [some b1, some (.int many), some (.lst .own ((bow0 many).map dotD)), some (.int s), some (dotD q), none, none, none, none]) (by simp only [evS, e2]; simp [bindT, bor, bx])]
    rw [ev_cons (ρ1 := [some b1, some (.int many), some (.lst .own ((bow1 s q many).map dotD)), some (.int s), some (dotD q), none, none, none, none]) (by simp only [evS, e3]; simp [bindT, bor, by'])]
    have tup : evE p.gs cal (.bi .tuple (.cons (.lc (.pop 2 (.fc kp (.cons (.lend 0) (.cons (.bi .len (.cons (.v .bo 2) .nil)) .nil)))) (.nm 8) (.rng (.v .bo 1)) (.bl true) [8]) .nil)) [some b1, some (.int many), some (.lst .own ((bow1 s q many).map dotD)), some (.int s), some (dotD q), none, none, none, none] =
        some (crowdD taken, [some b2, some (.int many), some (.lst .own []), some (.int s), some (dotD q), none, none, none, none]) := by
      rw [evE, evA, lc]
      simp [evA, restore, bor, bz, biS, tupS, crowdD]
    rw [ev_cons_rt (ev_ret tup (by simp [crowdD, bor, bz]))]
  have as : asgs (b_law_bow kp kd) = [3, 4, 2, 2] := rfl
  unfold runF
  simp [n_law_bow, f0, f2, bor, borL, body, finL, frz, as]
end Pur

namespace Pur
open PySem
def areaI (a b c : Int × Int) : Int := (b.1 - a.1) * (c.2 - a.2) - (b.2 - a.2) * (c.1 - a.1)
def Near (q : Int × Int) : Prop := -100000 ≤ q.1 ∧ q.1 ≤ 100000 ∧ -100000 ≤ q.2 ∧ q.2 ≤ 100000
theorem area_run {p : Pg} {cal : Cal} {W : Nat} {a b c : Int × Int} (ha : Near a) (hb : Near b) :
    runF p W cal ⟨"_law_area", 3, n_law_area, b_law_area⟩ [dotD a, dotD b, dotD c] = some (.int (areaI a b c), [dotD a, dotD b, dotD c]) := by
  obtain ⟨a1, a2, a3, a4⟩ := ha
  obtain ⟨b1, b2, b3, b4⟩ := hb
  have m1 : mulOk (b.1 - a.1) (c.2 - a.2) = true := mulOk_l (by simp only [small64, decide_eq_true_eq]; omega)
  have m2 : mulOk (b.2 - a.2) (c.1 - a.1) = true := mulOk_l (by simp only [small64, decide_eq_true_eq]; omega)
  unfold runF
  simp [b_law_area, n_law_area, evS, evE, dotD, look, lookL, bor, borL, isP, idxS, L2.atI, L2.ixN, binS, m1, m2, finL, frz, frzL, areaI]
def AreaS (cal : Cal) (k : Nat) : Prop := ∀ a b c : Int × Int, Near a → Near b → cal k [dotD a, dotD b, dotD c] = some (.int (areaI a b c), [dotD a, dotD b, dotD c])
def sgnI (a b c : Int × Int) : Int := if areaI a b c > 0 then 1 else if areaI a b c < 0 then -1 else 0
theorem turn_run {p : Pg} {cal : Cal} {W k : Nat} {a b c : Int × Int} (h : AreaS cal k) (ha : Near a) (hb : Near b) :
    runF p W cal ⟨"_law_turn", 3, n_law_turn, b_law_turn k⟩ [dotD a, dotD b, dotD c] = some (.int (sgnI a b c), [dotD a, dotD b, dotD c]) := by
  have e := h a b c ha hb
  have f : ∀ q : Int × Int, frz (dotD q) = true := fun _ => rfl
  have g : ∀ q : Int × Int, bor (dotD q) = false := fun _ => rfl
  unfold runF sgnI
  by_cases h1 : 0 < areaI a b c
  · simp [b_law_turn, n_law_turn, evS, evE, evF, lendOf, lends, fillL, giveL, f, g, e, bindT, bor, borL, look, isP, cmpS, finL, h1]
  · by_cases h2 : areaI a b c < 0
    · simp [b_law_turn, n_law_turn, evS, evE, evF, lendOf, lends, fillL, giveL, f, g, e, bindT, bor, borL, look, isP, cmpS, finL, h1, h2]
    · simp [b_law_turn, n_law_turn, evS, evE, evF, lendOf, lends, fillL, giveL, f, g, e, bindT, bor, borL, look, isP, cmpS, finL, h1, h2]
end Pur

namespace Pur
open PySem
/-! _law_bag -/
theorem frzL_take {ds : List D} (h : frzL ds = true) : ∀ n, frzL (ds.take n) = true := by
  intro n
  induction ds generalizing n with
  | nil => simp [frzL]
  | cons d ds ih =>
    simp only [frzL, Bool.and_eq_true] at h
    cases n with
    | zero => rfl
    | succ n => simp only [List.take_succ_cons, frzL, h.1, ih h.2 n]; rfl
theorem cut_take {α : Type} (xs : List α) : cutD xs none (some 63) = xs.take 63 := by
  unfold cutD HT.sIx
  simp
def absI (i : Int) : Int := if i < 0 then -i else i
theorem bag_s1 {gl : List (Str × D)} {cal : Cal} {ns : List Int} {salt : Int} {x2 x3 : Option D} (hn : ns.length ≤ 63) :
    evE gl cal (.lc (.bi .abs (.cons (.bi .int (.cons (.v .bo 4) .nil)) .nil)) (.nm 4) (.slc (.v .bo 0) .abs_ (.int 63)) (.bl true) [4]) [some (.lst .cst (ns.map .int)), some (.int salt), x2, x3, none] =
      some (.lst .own ((ns.map absI).map .int), [some (.lst .cst (ns.map .int)), some (.int salt), x2, x3, none]) := by
  obtain ⟨s1, s2, s3⟩ := stillL _ (frz_ints ns)
  have tk : (ns.map D.int).take 63 = ns.map D.int := List.take_of_length_le (by simp; omega)
  have hL : lcL (lcF gl cal (.bi .abs (.cons (.bi .int (.cons (.v .bo 4) .nil)) .nil)) (.nm 4) (.bl true) [4]) (ns.map D.int) (wipeD [some (.lst .cst (ns.map .int)), some (.int salt), x2, x3, none] [4]) =
      some ((ns.map D.int).flatMap (fun x => [match x with | .int j => .int (absI j) | _ => .non]), [some (.lst .cst (ns.map .int)), some (.int salt), x2, x3, none]) := by
    refine lcL_flat fun x hx => ?_
    simp only [List.mem_map] at hx
    obtain ⟨j, _, rfl⟩ := hx
    simp [lcF, wipeD, bindT, bor, evE, evA, look, isP, biS, absS, intS, absI]
  rw [ev_lc (kp := .lst .own (ns.map .int)) (ρ1 := [some (.lst .cst (ns.map .int)), some (.int salt), x2, x3, none]) (by unfold evI; simp [evE, look, s2, bor, s3, isP, bndOf, slcS, cut_take, tk, itOf, seqOf, frz_ints]) (by simp [bor, s3]) (by simp; omega) (by simp [tgs]) hL]
  simp [restore, List.flatMap_map, Function.comp_def]
  rw [List.map_eq_flatMap]
end Pur

namespace Pur
open PySem
theorem mulOk_r {i j : Int} (h : small64 j = true) : mulOk i j = true := by simp [mulOk, h]
theorem bag_run {p : Pg} {cal : Cal} {W : Nat} {ns : List Int} {salt : Int} (hn : ns.length ≤ 63) :
    ∃ b, runF p W cal ⟨"_law_bag", 2, n_law_bag, b_law_bag⟩ [.lst .cst (ns.map .int), .int salt] = some (b, [.lst .cst (ns.map .int), .int salt]) ∧ IsBag b := by
  obtain ⟨s1, s2, s3⟩ := stillL _ (frz_ints (ns.map absI))
  have g1 := frz_ints (ns.map absI)
  have c1 : frzL (ns.map D.int) = true := frz_ints ns
  have m31 : ∀ i : Int, mulOk 31 i = true := fun i => mulOk_l (by decide)
  have m4 : ∀ i : Int, mulOk i 40014 = true := fun i => mulOk_r (by decide)
  have m6 : ∀ i : Int, mulOk i 69621 = true := fun i => mulOk_r (by decide)
  have e1 := bag_s1 (gl := p.gs) (cal := cal) (ns := ns) (salt := salt) (x2 := none) (x3 := none) hn
  have len : (ns.map absI).length = ns.length := by simp
  generalize ns.map absI = as at s1 s2 s3 g1 e1 len
  let cs := as.map D.int
  have h1 : evS p.gs cal W (.asg (.nm 2) (.lc (.bi .abs (.cons (.bi .int (.cons (.v .bo 4) .nil)) .nil)) (.nm 4) (.slc (.v .bo 0) .abs_ (.int 63)) (.bl true) [4])) [some (.lst .cst (ns.map .int)), some (.int salt), none, none, none] =
      some (.nx [some (.lst .cst (ns.map .int)), some (.int salt), some (.lst .own cs), none, none]) := by
    simp only [evS, e1]
    simp [bindT, bor, s3, cs]
  have h2 : evS p.gs cal W (.asg (.nm 3) (.bin .add (.v .bo 1) (.bin .mul (.int 31) (.bi .len (.cons (.v .bo 2) .nil))))) [some (.lst .cst (ns.map .int)), some (.int salt), some (.lst .own cs), none, none] =
      some (.nx [some (.lst .cst (ns.map .int)), some (.int salt), some (.lst .own cs), some (.int (salt + 31 * ns.length)), none]) := by
    simp [evS, evE, evA, look, bor, isP, biS, lenS, binS, addS, m31, bindT, cs, s2, len]
  let bd : S := .cons (.asg (.nm 3) (.bin .mod (.bi .int (.cons (.bin .add (.bin .add (.bin .mul (.v .bo 3) (.int 40014)) (.bin .mul (.v .bo 4) (.int 69621))) (.int 17)) .nil)) (.int 2147483563))) .nil
  let I : List D → En → Prop := fun items ρ => ∃ (rest : List Int) (sd : Int) (x4 : Option D), items = rest.map .int ∧ ρ = [some (.lst .cst (ns.map .int)), some (.int salt), some (.lst .frz cs), some (.int sd), x4]
  obtain ⟨ρ', e2, rest, sd, x4, _, rfl⟩ := forL_inv (wp := []) (t := .nm 4) (f := evS p.gs cal W bd) I (items := cs) (ρ := [some (.lst .cst (ns.map .int)), some (.int salt), some (.lst .frz cs), some (.int (salt + 31 * ns.length)), none])
    ⟨as, _, none, rfl, rfl⟩ (by
      rintro x xs ρ ⟨rest, sd, x4, q1, rfl⟩
      cases rest with
      | nil => cases q1
      | cons j rest =>
        simp only [List.map_cons, List.cons.injEq] at q1
        obtain ⟨rfl, rfl⟩ := q1
        refine ⟨[some (.lst .cst (ns.map .int)), some (.int salt), some (.lst .frz cs), some (.int sd), some (.int j)], [some (.lst .cst (ns.map .int)), some (.int salt), some (.lst .frz cs), some (.int ((sd * 40014 + j * 69621 + 17).fmod 2147483563)), some (.int j)], by simp [bindT, bor], .inl ?_, rest, _, _, rfl, rfl⟩
        simp [bd, evS, evE, evA, look, bor, isP, biS, intS, binS, addS, m4, m6, bindT])
  have h3' : evI p.gs cal (.v .fz 2) [some (.lst .cst (ns.map .int)), some (.int salt), some (.lst .own cs), some (.int (salt + 31 * ns.length)), none] =
      some (cs, .lst .frz cs, [some (.lst .cst (ns.map .int)), some (.int salt), some (.lst .frz cs), some (.int (salt + 31 * ns.length)), none]) := by
    simp only [evI, evE]
    simp [share, s1, itOf, seqOf, g1, cs]
  have h3 := (ev_for (cal := cal) (W := W) (t := .nm 4) (b := bd) (wp := []) h3' (by simp [bor, s3, cs])).trans e2
  let big := as.filter fun j => decide (10 ^ 18 ≤ j)
  refine ⟨bagD big 0 sd, ?_, big, 0, sd, rfl⟩
  let ρ : En := [some (.lst .cst (ns.map .int)), some (.int salt), some (.lst .frz cs), some (.int sd), x4]
  have fm : ∀ l : List Int, (l.map D.int).flatMap (fun x => match x with | .int j => if 1000000000000000000 ≤ j then [D.int j] else [] | _ => []) = (l.filter fun j => decide (10 ^ 18 ≤ j)).map D.int := by
    intro l
    induction l with
    | nil => rfl
    | cons j l ih =>
      simp only [List.map_cons, List.flatMap_cons, ih, List.filter_cons]
      by_cases hj : (1000000000000000000 : Int) ≤ j
      · simp [hj]
      · simp [hj]
  have hL : lcL (lcF p.gs cal (.v .bo 4) (.nm 4) (.cmp .ge (.v .bo 4) (.bin .pow (.int 10) (.int 18))) [4]) cs (wipeD ρ [4]) =
      some (cs.flatMap (fun x => match x with | .int j => if 1000000000000000000 ≤ j then [D.int j] else [] | _ => []), wipeD ρ [4]) := by
    refine lcL_flat fun x hx => ?_
    simp only [cs, List.mem_map] at hx
    obtain ⟨j, _, rfl⟩ := hx
    by_cases hj : (1000000000000000000 : Int) ≤ j
    · simp [lcF, ρ, wipeD, bindT, bor, evE, look, isP, binS, cmpS, hj]
    · simp [lcF, ρ, wipeD, bindT, bor, evE, look, isP, binS, cmpS, hj]
  have lc := ev_lc (gl := p.gs) (cal := cal) (it := .v .bo 2) (ρ := ρ) (ρ1 := ρ) (kp := .lst .frz cs) (by simp [ρ, evI, evE, look, s2, itOf, seqOf, g1, cs]) (by simp [bor, s3, cs]) (by simp [cs, len]; omega) (by simp [tgs]) hL
  rw [fm as] at lc
  have bb : borL (big.map D.int) = false := bor_ints big
  have r3 : (restore ρ [4] (wipeD ρ [4]))[3]? = some (some (.int sd)) := by
    cases x4 with
    | none => simp [restore, ρ, wipeD]
    | some d => by_cases hd : frz d = true <;> simp [restore, ρ, wipeD, hd]
  have ret : evS p.gs cal W (.ret (.lst (.cons (.lc (.v .bo 4) (.nm 4) (.v .bo 2) (.cmp .ge (.v .bo 4) (.bin .pow (.int 10) (.int 18))) [4]) (.cons (.int 0) (.cons (.v .bo 3) .nil))))) ρ = some (.rt (bagD big 0 sd) (restore ρ [4] (wipeD ρ [4]))) := by
    refine ev_ret ?_ (by simp [bagD, bor, borL, bb])
    rw [evE, evA, lc]
    simp [evA, evE, r3, look, bor, borL, isP, bagD, big, bor_ints]
  have body : evS p.gs cal W b_law_bag [some (.lst .cst (ns.map .int)), some (.int salt), none, none, none] = some (.rt (bagD big 0 sd) (restore ρ [4] (wipeD ρ [4]))) := by
    show evS p.gs cal W (.cons _ (.cons _ (.cons (.for_ (.nm 4) (.v .fz 2) bd []) (.cons _ .nil)))) _ = _
    rw [ev_cons h1, ev_cons h2, ev_cons h3, ev_cons_rt ret]
  unfold runF
  simp [n_law_bag, bor, borL, bor_ints, body, finL, frz, Fl.still, c1]
end Pur

namespace Pur
open PySem
/-! is_integer, is_within -/
theorem integer_run {p : Pg} {cal : Cal} {W : Nat} (i : Int) : runF p W cal ⟨"is_integer", 1, n_is_integer, b_is_integer⟩ [.int i] = some (.bl true, [.int i]) := by
  unfold runF
  simp [b_is_integer, n_is_integer, evS, evE, evAnd, isNil, look, isiS, bor, borL, finL, frz]
def IntegerS (cal : Cal) (k : Nat) : Prop := ∀ i : Int, cal k [.int i] = some (.bl true, [.int i])
theorem within_run {p : Pg} {cal : Cal} {W k : Nat} (h : IntegerS cal k) (i lo hi : Int) : runF p W cal ⟨"is_within", 3, n_is_within, b_is_within k⟩ [.int i, .int lo, .int hi] = some (.bl (decide (lo ≤ i ∧ i ≤ hi)), [.int i, .int lo, .int hi]) := by
  unfold runF
  by_cases h1 : lo ≤ i
  · simp [b_is_within, n_is_within, evS, evE, evF, evAnd, isNil, lendOf, lends, fillL, giveL, h i, look, bor, borL, isP, cmpS, finL, frz, h1]
  · simp [b_is_within, n_is_within, evS, evE, evF, evAnd, isNil, lendOf, lends, fillL, giveL, h i, look, bor, borL, isP, cmpS, finL, frz, h1]
end Pur

namespace Pur
open PySem
def WithinS (cal : Cal) (k : Nat) : Prop := ∀ i lo hi : Int, cal k [.int i, .int lo, .int hi] = some (.bl (decide (lo ≤ i ∧ i ≤ hi)), [.int i, .int lo, .int hi])
def Far1 (q : Int × Int) : Prop := -10000 ≤ q.1 ∧ q.1 ≤ 10000 ∧ -10000 ≤ q.2 ∧ q.2 ≤ 10000
theorem dot_run {p : Pg} {cal : Cal} {W k g : Nat} {x : Str} (h : WithinS cal k) (hg : p.gs[g]? = some (x, .int 10000)) {q : Int × Int} (hq : Far1 q) : runF p W cal ⟨"is_dot", 1, n_is_dot, b_is_dot k g⟩ [dotD q] = some (.bl true, [dotD q]) := by
  obtain ⟨q1, q2, q3, q4⟩ := hq
  have w1 : cal k [.int q.1, .int (-10000), .int 10000] = some (.bl true, [.int q.1, .int (-10000), .int 10000]) := by rw [h]; simp [q1, q2]
  have w2 : cal k [.int q.2, .int (-10000), .int 10000] = some (.bl true, [.int q.2, .int (-10000), .int 10000]) := by rw [h]; simp [q3, q4]
  have lc := ev_lc (gl := p.gs) (cal := cal) (elt := .fc k (.cons (.lend 1) (.cons (.neg (.glob g)) (.cons (.glob g) .nil)))) (t := .nm 1) (c := .bl true) (vs := [1]) (it := .v .fz 0) (ρ := [some (dotD q), none]) (ρ1 := [some (dotD q), none]) (ρ2 := [some (dotD q), none]) (items := [.int q.1, .int q.2]) (ys := [.bl true, .bl true]) (kp := dotD q)
    (by simp [evI, evE, dotD, share, shareL, itOf, seqOf, frzL, frz]) (by simp [dotD, bor, borL]) (by simp) (by simp [tgs]) (by
      simp [lcL, lcF, wipeD, bindT, bor, borL, evE, evF, lendOf, lends, hg, fillL, giveL, frz, w1, w2, dotD])
  have all : evE p.gs cal (.bi .all (.cons (.lc (.fc k (.cons (.lend 1) (.cons (.neg (.glob g)) (.cons (.glob g) .nil)))) (.nm 1) (.v .fz 0) (.bl true) [1]) .nil)) [some (dotD q), none] = some (.bl true, [some (dotD q), none]) := by
    rw [evE, evA, lc]
    simp [evA, restore, bor, borL, biS, allS, blsOf]
  have first : evS p.gs cal W (.ifs (.or_ (.cons (.not_ (.isi (.v .bo 0) "tuple")) (.cons (.cmp .ne (.bi .len (.cons (.v .bo 0) .nil)) (.int 2)) .nil))) (.cons (.ret (.bl false)) .nil) .nil) [some (dotD q), none] = some (.nx [some (dotD q), none]) := by
    simp [evS, evE, evOr, evA, isNil, dotD, look, lookL, isiS, biS, lenS, bor, borL, isP, cmpS, eqS, lay, eqD, py, eqv_int]
  have body : evS p.gs cal W (b_is_dot k g) [some (dotD q), none] = some (.rt (.bl true) [some (dotD q), none]) := by
    show evS p.gs cal W (.cons _ (.cons (.ret _) .nil)) _ = _
    rw [ev_cons first, ev_cons_rt (ev_ret all rfl)]
  unfold runF
  simp [n_is_dot, dotD, bor, borL, finL, frz, frzL]
  simp only [dotD] at body
  simp [body, finL, frz, frzL]
end Pur

namespace Pur
open PySem
/-! is_crowd: how many keys -/
theorem addK_nodup {κ : Type} [DecidableEq κ] : ∀ (ks seen : List κ), (seen ++ ks).Nodup → addK seen ks = seen ++ ks
  | [], seen, _ => by simp [addK]
  | k :: ks, seen, h => by
    have hk : k ∉ seen := fun hm => by
      have := (List.nodup_append.mp h).2.2 k hm k List.mem_cons_self
      exact this rfl
    simp only [addK, if_neg hk]
    rw [addK_nodup ks (seen ++ [k]) (by rw [List.append_assoc]; exact h), List.append_assoc]
    rfl
def keyD (q : Int × Int) : List L2.Key := [.inl q.1, .inl q.2]
theorem ksT_dots : ∀ ds : List (Int × Int), ksT (ds.map dotD) = some (ds.map keyD)
  | [] => rfl
  | q :: ds => by simp [ksT, kOfT, dotD, kOfL, kOf, ksT_dots ds, keyD]
theorem uniq_dots {ds : List (Int × Int)} (h : ds.Nodup) : uniqS (ds.map dotD) = some ds.length := by
  have nd : (ds.map keyD).Nodup := by
    refine List.Pairwise.map _ (fun a b hab => ?_) h
    intro e
    simp only [keyD, List.cons.injEq, Sum.inl.injEq, and_true] at e
    exact hab (Prod.ext e.1 e.2)
  cases ds with
  | nil => rfl
  | cons q ds =>
    have e1 : kOfL ((q :: ds).map dotD) = none := by simp [kOfL, kOf, dotD]
    unfold uniqS
    rw [e1, ksT_dots]
    simp only
    rw [addK_nodup _ _ (by simpa using nd)]
    simp
end Pur

namespace Pur
open PySem
def DotOkS (cal : Cal) (k : Nat) : Prop := ∀ q : Int × Int, Far1 q → cal k [dotD q] = some (.bl true, [dotD q])
theorem crowd_lc {gl : List (Str × D)} {cal : Cal} {k : Nat} (h : DotOkS cal k) {ds : List (Int × Int)} (hc : ∀ q ∈ ds, Far1 q) (hn : ds.length ≤ 1000) :
    evE gl cal (.lc (.fc k (.cons (.lend 1) .nil)) (.nm 1) (.v .fz 0) (.bl true) [1]) [some (crowdD ds), none] = some (.lst .own (ds.map fun _ => .bl true), [some (crowdD ds), none]) := by
  obtain ⟨s1, s2, s3⟩ := stillL _ (frz_dots ds)
  have hL : lcL (lcF gl cal (.fc k (.cons (.lend 1) .nil)) (.nm 1) (.bl true) [1]) (ds.map dotD) (wipeD [some (crowdD ds), none] [1]) = some ((ds.map dotD).flatMap (fun _ => [.bl true]), [some (crowdD ds), none]) := by
    refine lcL_flat fun x hx => ?_
    obtain ⟨q, hq, rfl⟩ := List.mem_map.mp hx
    have e := h q (hc q hq)
    have b0 : bor (dotD q) = false := rfl
    have f0 : frz (dotD q) = true := rfl
    simp [lcF, wipeD, bindT, b0, evE, evF, lendOf, lends, fillL, giveL, f0, e, bor, borL]
  rw [ev_lc (kp := crowdD ds) (ρ1 := [some (crowdD ds), none]) (by simp [evI, evE, crowdD, share, s1, itOf, seqOf, frz_dots]) (by simp [crowdD, bor, s3]) (by simp; omega) (by simp [tgs]) hL]
  simp [restore, List.flatMap_map]
  rw [List.map_eq_flatMap]
end Pur

namespace Pur
open PySem
def unF (gl : List (Str × D)) (cal : Cal) (key : E) (t : T) (vs : List Nat) : D → En → Option (List D × En) := fun x ρ => match bindT t x ρ with
  | none => none
  | some ρ2 => match evE gl cal key ρ2 with
    | some (y, ρ3) => some ([y], wipeD ρ3 vs)
    | none => none
theorem ev_uniq {gl : List (Str × D)} {cal : Cal} {key it : E} {t : T} {vs : List Nat} {ρ ρ1 ρ2 : En} {items ys : List D} {kp : D} {n : Nat} (hit : evI gl cal it ρ = some (items, kp, ρ1)) (hk : isP key = true) (hl : items.length ≤ 1000) (ht : (tgs t).all vs.contains = true)
    (hL : lcL (unF gl cal key t vs) items (wipeD ρ1 vs) = some (ys, ρ2)) (hu : uniqS ys = some n) : evE gl cal (.uniq key t it vs) ρ = some (.int n, restore ρ1 vs ρ2) := by
  unfold evI at hit
  cases e1 : evE gl cal it ρ with
  | none => rw [e1] at hit; cases hit
  | some q =>
    obtain ⟨d0, ρ0⟩ := q
    rw [e1] at hit
    cases e2 : itOf it d0 with
    | none => simp only [e2] at hit; cases hit
    | some q2 =>
      obtain ⟨items', kp'⟩ := q2
      simp only [e2, Option.some.injEq, Prod.mk.injEq] at hit
      obtain ⟨rfl, rfl, rfl⟩ := hit
      simp only [evE, e1, e2]
      rw [if_neg (by rw [hk, ht]; simp; omega)]
      show (match lcL (unF gl cal key t vs) items' (wipeD ρ0 vs) with
        | some (ys, ρ2) => (uniqS ys).map fun n => (D.int (n : Nat), restore ρ0 vs ρ2)
        | none => none) = _
      rw [hL]
      simp [hu]
theorem crowd_un {gl : List (Str × D)} {cal : Cal} {ds : List (Int × Int)} (hd : ds.Nodup) (hn : ds.length ≤ 1000) : evE gl cal (.uniq (.v .bo 1) (.nm 1) (.v .bo 0) [1]) [some (crowdD ds), none] = some (.int ds.length, [some (crowdD ds), none]) := by
  obtain ⟨s1, s2, s3⟩ := stillL _ (frz_dots ds)
  have hL : lcL (unF gl cal (.v .bo 1) (.nm 1) [1]) (ds.map dotD) (wipeD [some (crowdD ds), none] [1]) = some ((ds.map dotD).flatMap (fun x => [x]), [some (crowdD ds), none]) := by
    refine lcL_flat fun x hx => ?_
    obtain ⟨q, hq, rfl⟩ := List.mem_map.mp hx
    have b0 : bor (dotD q) = false := rfl
    have l0 : look (dotD q) = dotD q := rfl
    simp [unF, wipeD, bindT, b0, evE, l0]
  rw [ev_uniq (kp := crowdD ds) (ρ1 := [some (crowdD ds), none]) (by simp [evI, evE, crowdD, look, s2, itOf, seqOf, frz_dots]) rfl (by simp; omega) (by simp [tgs]) hL (by rw [List.flatMap_singleton']; exact uniq_dots hd)]
  simp [restore]
end Pur

namespace Pur
open PySem
theorem bls_true : ∀ l : List (Int × Int), blsOf (l.map fun _ => D.bl true) = some (l.map fun _ => true)
  | [] => rfl
  | x :: xs => by simp [blsOf, bls_true xs]
theorem bor_true : ∀ l : List (Int × Int), borL (l.map fun _ => D.bl true) = false
  | [] => rfl
  | x :: xs => by simp only [List.map_cons, borL, bor, bor_true xs]; rfl
theorem crowd_run {p : Pg} {cal : Cal} {W k g1 g2 : Nat} {x y : Str} (h : DotOkS cal k) (hg1 : p.gs[g1]? = some (x, .int 3)) (hg2 : p.gs[g2]? = some (y, .int 12)) {ds : List (Int × Int)} (hc : ∀ q ∈ ds, Far1 q) (hd : ds.Nodup) (h3 : 3 ≤ ds.length) (h12 : ds.length ≤ 12) :
    runF p W cal ⟨"is_crowd", 1, n_is_crowd, b_is_crowd k g1 g2⟩ [crowdD ds] = some (.bl true, [crowdD ds]) := by
  obtain ⟨s1, s2, s3⟩ := stillL _ (frz_dots ds)
  have e1 := crowd_lc (gl := p.gs) h hc (by omega)
  have e2 := crowd_un (gl := p.gs) (cal := cal) hd (by omega)
  have a1 : (3 : Int) ≤ ds.length := by omega
  have a2 : (ds.length : Int) ≤ 12 := by omega
  have all : evE p.gs cal (.bi .all (.cons (.lc (.fc k (.cons (.lend 1) .nil)) (.nm 1) (.v .fz 0) (.bl true) [1]) .nil)) [some (crowdD ds), none] = some (.bl true, [some (crowdD ds), none]) := by
    rw [evE, evA, e1]
    simp [evA, bor, bor_true, biS, allS, bls_true, isP]
  have ln : evE p.gs cal (.bi .len (.cons (.v .bo 0) .nil)) [some (crowdD ds), none] = some (.int ds.length, [some (crowdD ds), none]) := by
    simp [evE, evA, crowdD, look, s2, bor, s3, biS, lenS, isP]
  have first : evS p.gs cal W (.ifs (.or_ (.cons (.not_ (.isi (.v .bo 0) "tuple")) (.cons (.not_ (.chain .le .le (.glob g1) (.bi .len (.cons (.v .bo 0) .nil)) (.glob g2))) .nil))) (.cons (.ret (.bl false)) .nil) .nil) [some (crowdD ds), none] = some (.nx [some (crowdD ds), none]) := by
    simp [evS, evE, evOr, evA, isNil, hg1, hg2, crowdD, look, s2, isiS, biS, lenS, bor, s3, borL, isP, cmpS, a1, a2]
  have eq : evE p.gs cal (.cmp .eq (.uniq (.v .bo 1) (.nm 1) (.v .bo 0) [1]) (.bi .len (.cons (.v .bo 0) .nil))) [some (crowdD ds), none] = some (.bl true, [some (crowdD ds), none]) := by
    rw [evE, e2]
    simp only
    rw [ln]
    simp [bor, cmpS, eqS, lay, eqD, py, eqv_int]
  have fin : evE p.gs cal (.and_ (.cons (.bi .all (.cons (.lc (.fc k (.cons (.lend 1) .nil)) (.nm 1) (.v .fz 0) (.bl true) [1]) .nil)) (.cons (.cmp .eq (.uniq (.v .bo 1) (.nm 1) (.v .bo 0) [1]) (.bi .len (.cons (.v .bo 0) .nil))) .nil))) [some (crowdD ds), none] = some (.bl true, [some (crowdD ds), none]) := by
    rw [evE, evAnd]
    simp only [isNil, all]
    rw [evAnd]
    simp only [isNil, eq]
  have body : evS p.gs cal W (b_is_crowd k g1 g2) [some (crowdD ds), none] = some (.rt (.bl true) [some (crowdD ds), none]) := by
    show evS p.gs cal W (.cons _ (.cons (.ret _) .nil)) _ = _
    rw [ev_cons first, ev_cons_rt (ev_ret fin rfl)]
  have fr : frz (crowdD ds) = true := by simp [crowdD, frz, frz_dots]
  have bo : bor (crowdD ds) = false := by simp [crowdD, bor, s3]
  unfold runF
  simp [n_is_crowd, bo, borL, body, finL, fr]
end Pur

namespace Pur
open PySem
/-- a whole crowd -/
structure Crowd (ds : List (Int × Int)) : Prop where
  nd : ds.Nodup
  far : ∀ q ∈ ds, Far1 q
  lo : 3 ≤ ds.length
  hi : ds.length ≤ 12
theorem frz_crowd (ds : List (Int × Int)) : frz (crowdD ds) = true ∧ bor (crowdD ds) = false ∧ look (crowdD ds) = crowdD ds ∧ share (crowdD ds) = crowdD ds := by
  obtain ⟨s1, s2, s3⟩ := stillL _ (frz_dots ds)
  simp [crowdD, frz, frz_dots, bor, s3, look, s2, share, s1]
def CrowdS (cal : Cal) (k : Nat) : Prop := ∀ ds, Crowd ds → cal k [crowdD ds] = some (.bl true, [crowdD ds])
theorem check_run {p : Pg} {cal : Cal} {W k : Nat} (h : CrowdS cal k) {ds : List (Int × Int)} (hc : Crowd ds) : runF p W cal ⟨"check_crowd", 1, n_check_crowd, b_check_crowd k⟩ [crowdD ds] = some (.non, [crowdD ds]) := by
  obtain ⟨f1, f2, f3, f4⟩ := frz_crowd ds
  have e := h ds hc
  unfold runF
  simp [b_check_crowd, n_check_crowd, evS, evE, evF, lendOf, lends, fillL, giveL, f1, f2, e, bor, borL, finL]
end Pur

namespace Pur
open PySem
/-! the mathematics of thirds -/
def atQ (ds : List (Int × Int)) (j : Int) : Int × Int := ds.getD j.toNat (0, 0)
def sum0 (ds : List (Int × Int)) (l : List Int) : Int := (l.map fun j => (atQ ds j).1).sum
def sum1 (ds : List (Int × Int)) (l : List Int) : Int := (l.map fun j => (atQ ds j).2).sum
def isThird (ds : List (Int × Int)) (l : List Int) : Bool := decide ((sum0 ds l).fmod 3 = 0) && decide ((sum1 ds l).fmod 3 = 0)
def thirdsI (ds : List (Int × Int)) : List (List Int) := (lotsI ds.length 3).filter (isThird ds)
theorem mem_range {lo hi x : Int} : x ∈ rangeI lo hi ↔ lo ≤ x ∧ x < hi := by
  unfold rangeI
  simp only [List.mem_map, List.mem_range]
  constructor
  · rintro ⟨k, hk, rfl⟩
    omega
  · rintro ⟨h1, h2⟩
    exact ⟨(x - lo).toNat, by omega, by omega⟩
theorem mem_lots3 {n i j k : Int} (h0 : 0 ≤ i) (h1 : i < j) (h2 : j < k) (h3 : k < n) : [i, j, k] ∈ lotsI n 3 := by
  simp only [lotsI, List.mem_flatMap, growI, List.mem_map, mem_range, List.mem_singleton]
  exact ⟨[i, j], ⟨[i], ⟨[], rfl, i, ⟨by simp [nextI]; omega, by omega⟩, rfl⟩, j, ⟨by simp [nextI]; omega, by omega⟩, rfl⟩, k, ⟨by simp [nextI]; omega, by omega⟩, rfl⟩
theorem of_lots3 {n : Int} {l : List Int} (h : l ∈ lotsI n 3) : ∃ i j k, l = [i, j, k] ∧ 0 ≤ i ∧ i < j ∧ j < k ∧ k < n := by
  simp only [lotsI, List.mem_flatMap, growI, List.mem_map, mem_range, List.mem_singleton] at h
  obtain ⟨l2, ⟨l1, ⟨l0, rfl, i, hi, rfl⟩, j, hj, rfl⟩, k, hk, rfl⟩ := h
  simp [nextI] at hi hj hk
  exact ⟨i, j, k, rfl, by omega, by omega, by omega, by omega⟩
theorem caps5 : ∀ p0 p1 p2 p3 p4 p5 p6 p7 p8 : Bool, 5 ≤ p0.toNat + p1.toNat + p2.toNat + p3.toNat + p4.toNat + p5.toNat + p6.toNat + p7.toNat + p8.toNat →
    ((p0 && p1 && p2) || (p3 && p4 && p5) || (p6 && p7 && p8) || (p0 && p3 && p6) || (p1 && p4 && p7) || (p2 && p5 && p8) ||
     (p0 && p4 && p8) || (p1 && p5 && p6) || (p2 && p3 && p7) || (p0 && p5 && p7) || (p1 && p3 && p8) || (p2 && p4 && p6)) = true := by decide +kernel
def cls (ds : List (Int × Int)) (i : Nat) : Int := 3 * ((ds.getD i (0, 0)).1 % 3) + (ds.getD i (0, 0)).2 % 3
theorem split9 (c : Nat → Int) (hc : ∀ i, 0 ≤ c i ∧ c i < 9) : ∀ L : List Nat, L.length = (L.filter fun i => decide (c i = 0)).length + (L.filter fun i => decide (c i = 1)).length + (L.filter fun i => decide (c i = 2)).length + (L.filter fun i => decide (c i = 3)).length + (L.filter fun i => decide (c i = 4)).length + (L.filter fun i => decide (c i = 5)).length + (L.filter fun i => decide (c i = 6)).length + (L.filter fun i => decide (c i = 7)).length + (L.filter fun i => decide (c i = 8)).length
  | [] => rfl
  | x :: L => by
    have ih := split9 c hc L
    obtain ⟨h1, h2⟩ := hc x
    have hx : c x = 0 ∨ c x = 1 ∨ c x = 2 ∨ c x = 3 ∨ c x = 4 ∨ c x = 5 ∨ c x = 6 ∨ c x = 7 ∨ c x = 8 := by omega
    rcases hx with e | e | e | e | e | e | e | e | e <;> simp [List.filter_cons, e] <;> omega
/-- three of one list that goes up -/
theorem three_of {L : List Nat} (h : L.Pairwise (· < ·)) (hl : 3 ≤ L.length) : ∃ i j k, i ∈ L ∧ j ∈ L ∧ k ∈ L ∧ i < j ∧ j < k := by
  match L, hl with
  | i :: j :: k :: r, _ =>
    simp only [List.pairwise_cons, List.mem_cons] at h
    exact ⟨i, j, k, by simp, by simp, by simp, h.1 j (.inl rfl), h.2.1 k (.inl rfl)⟩
/-- three places, two of them never one, in order -/
theorem sort3 {P : Nat → Nat → Nat → Prop} (s1 : ∀ a b c, P a b c → P b a c) (s2 : ∀ a b c, P a b c → P a c b) {a b c : Nat} (h : P a b c) (h1 : a ≠ b) (h2 : a ≠ c) (h3 : b ≠ c) : ∃ i j k, i < j ∧ j < k ∧ P i j k ∧ (i = a ∨ i = b ∨ i = c) ∧ (j = a ∨ j = b ∨ j = c) ∧ (k = a ∨ k = b ∨ k = c) := by
  rcases Nat.lt_or_gt_of_ne h1 with x | x <;> rcases Nat.lt_or_gt_of_ne h2 with y | y <;> rcases Nat.lt_or_gt_of_ne h3 with z | z
  · exact ⟨a, b, c, x, z, h, by simp, by simp, by simp⟩
  · exact ⟨a, c, b, y, z, s2 _ _ _ h, by simp, by simp, by simp⟩
  · omega
  · exact ⟨c, a, b, y, x, s1 _ _ _ (s2 _ _ _ h), by simp, by simp, by simp⟩
  · exact ⟨b, a, c, x, y, s1 _ _ _ h, by simp, by simp, by simp⟩
  · omega
  · exact ⟨b, c, a, z, y, s2 _ _ _ (s1 _ _ _ h), by simp, by simp, by simp⟩
  · exact ⟨c, b, a, z, x, s1 _ _ _ (s2 _ _ _ (s1 _ _ _ h)), by simp, by simp, by simp⟩
def Zero3 (ds : List (Int × Int)) (a b c : Nat) : Prop := ((ds.getD a (0, 0)).1 + (ds.getD b (0, 0)).1 + (ds.getD c (0, 0)).1) % 3 = 0 ∧ ((ds.getD a (0, 0)).2 + (ds.getD b (0, 0)).2 + (ds.getD c (0, 0)).2) % 3 = 0
theorem third_of {ds : List (Int × Int)} {i j k : Nat} (h1 : i < j) (h2 : j < k) (h3 : k < ds.length) (h : Zero3 ds i j k) : thirdsI ds ≠ [] := by
  intro e
  have m : [(i : Int), (j : Int), (k : Int)] ∈ thirdsI ds := by
    unfold thirdsI
    rw [List.mem_filter]
    refine ⟨mem_lots3 (by omega) (by omega) (by omega) (by omega), ?_⟩
    obtain ⟨z1, z2⟩ := h
    simp only [isThird, sum0, sum1, atQ, List.map_cons, List.map_nil, List.sum_cons, List.sum_nil, Int.toNat_natCast, Bool.and_eq_true, decide_eq_true_eq, Int.fmod_eq_emod_of_nonneg _ (show (0:Int) ≤ 3 by decide)]
    constructor <;> omega
  rw [e] at m
  cases m
theorem nine_hold {ds : List (Int × Int)} (h : 9 ≤ ds.length) : thirdsI ds ≠ [] := by
  intro no
  have hc : ∀ i, 0 ≤ cls ds i ∧ cls ds i < 9 := fun i => by unfold cls; omega
  have sp := split9 (cls ds) hc (List.range ds.length)
  rw [List.length_range] at sp
  have srt : ∀ c : Int, ((List.range ds.length).filter fun i => decide (cls ds i = c)).Pairwise (· < ·) := fun c => List.Pairwise.filter _ List.pairwise_lt_range
  have two : ∀ c : Int, ((List.range ds.length).filter fun i => decide (cls ds i = c)).length ≤ 2 := by
    intro c
    refine Decidable.byContradiction fun hn => ?_
    obtain ⟨i, j, k, hi, hj, hk, h1, h2⟩ := three_of (srt c) (by omega)
    simp only [List.mem_filter, List.mem_range, decide_eq_true_eq] at hi hj hk
    refine third_of h1 h2 hk.1 ?_ no
    have a := hi.2
    have b := hj.2
    have d := hk.2
    unfold cls at a b d
    unfold Zero3
    constructor <;> omega
  have some1 : ∀ c : Int, decide (0 < ((List.range ds.length).filter fun i => decide (cls ds i = c)).length) = true → ∃ i, i < ds.length ∧ cls ds i = c := by
    intro c hp
    obtain ⟨i, hi⟩ := List.exists_mem_of_length_pos (of_decide_eq_true hp)
    simp only [List.mem_filter, List.mem_range, decide_eq_true_eq] at hi
    exact ⟨i, hi⟩
  have line : ∀ x y z : Int, x ≠ y → x ≠ z → y ≠ z → (x / 3 + y / 3 + z / 3) % 3 = 0 → (x % 3 + y % 3 + z % 3) % 3 = 0 → (∃ i, i < ds.length ∧ cls ds i = x) → (∃ i, i < ds.length ∧ cls ds i = y) → (∃ i, i < ds.length ∧ cls ds i = z) → False := by
    rintro x y z n1 n2 n3 s1 s2 ⟨i, hi, ei⟩ ⟨j, hj, ej⟩ ⟨k, hk, ek⟩
    have m1 : i ≠ j := fun e => n1 (by rw [← ei, ← ej, e])
    have m2 : i ≠ k := fun e => n2 (by rw [← ei, ← ek, e])
    have m3 : j ≠ k := fun e => n3 (by rw [← ej, ← ek, e])
    have z : Zero3 ds i j k := by
      unfold cls at ei ej ek
      unfold Zero3
      constructor <;> omega
    obtain ⟨a, b, c, h1, h2, h3, -, -, hc⟩ := sort3 (P := Zero3 ds) (fun a b c h => ⟨by have := h.1; omega, by have := h.2; omega⟩) (fun a b c h => ⟨by have := h.1; omega, by have := h.2; omega⟩) z m1 m2 m3
    refine third_of h1 h2 ?_ h3 no
    rcases hc with rfl | rfl | rfl <;> assumption
  have t0 := two 0
  have t1 := two 1
  have t2 := two 2
  have t3 := two 3
  have t4 := two 4
  have t5 := two 5
  have t6 := two 6
  have t7 := two 7
  have t8 := two 8
  have e0 := some1 0
  have e1 := some1 1
  have e2 := some1 2
  have e3 := some1 3
  have e4 := some1 4
  have e5 := some1 5
  have e6 := some1 6
  have e7 := some1 7
  have e8 := some1 8
  generalize ((List.range ds.length).filter fun i => decide (cls ds i = 0)).length = n0 at *
  generalize ((List.range ds.length).filter fun i => decide (cls ds i = 1)).length = n1 at *
  generalize ((List.range ds.length).filter fun i => decide (cls ds i = 2)).length = n2 at *
  generalize ((List.range ds.length).filter fun i => decide (cls ds i = 3)).length = n3 at *
  generalize ((List.range ds.length).filter fun i => decide (cls ds i = 4)).length = n4 at *
  generalize ((List.range ds.length).filter fun i => decide (cls ds i = 5)).length = n5 at *
  generalize ((List.range ds.length).filter fun i => decide (cls ds i = 6)).length = n6 at *
  generalize ((List.range ds.length).filter fun i => decide (cls ds i = 7)).length = n7 at *
  generalize ((List.range ds.length).filter fun i => decide (cls ds i = 8)).length = n8 at *
  have tn : ∀ n : Nat, n ≤ 2 → n ≤ 2 * (decide (0 < n)).toNat := by
    intro n hn
    match n, hn with
    | 0, _ => decide
    | 1, _ => decide
    | 2, _ => decide
  have cp := caps5 (decide (0 < n0)) (decide (0 < n1)) (decide (0 < n2)) (decide (0 < n3)) (decide (0 < n4)) (decide (0 < n5)) (decide (0 < n6)) (decide (0 < n7)) (decide (0 < n8)) (by
    have := tn n0 t0
    have := tn n1 t1
    have := tn n2 t2
    have := tn n3 t3
    have := tn n4 t4
    have := tn n5 t5
    have := tn n6 t6
    have := tn n7 t7
    have := tn n8 t8
    omega)
  simp only [Bool.or_eq_true, Bool.and_eq_true] at cp
  rcases cp with (((((((((((⟨⟨a, b⟩, c⟩ | ⟨⟨a, b⟩, c⟩) | ⟨⟨a, b⟩, c⟩) | ⟨⟨a, b⟩, c⟩) | ⟨⟨a, b⟩, c⟩) | ⟨⟨a, b⟩, c⟩) | ⟨⟨a, b⟩, c⟩) | ⟨⟨a, b⟩, c⟩) | ⟨⟨a, b⟩, c⟩) | ⟨⟨a, b⟩, c⟩) | ⟨⟨a, b⟩, c⟩) | ⟨⟨a, b⟩, c⟩)
  · exact line 0 1 2 (by decide) (by decide) (by decide) (by decide) (by decide) (e0 a) (e1 b) (e2 c)
  · exact line 3 4 5 (by decide) (by decide) (by decide) (by decide) (by decide) (e3 a) (e4 b) (e5 c)
  · exact line 6 7 8 (by decide) (by decide) (by decide) (by decide) (by decide) (e6 a) (e7 b) (e8 c)
  · exact line 0 3 6 (by decide) (by decide) (by decide) (by decide) (by decide) (e0 a) (e3 b) (e6 c)
  · exact line 1 4 7 (by decide) (by decide) (by decide) (by decide) (by decide) (e1 a) (e4 b) (e7 c)
  · exact line 2 5 8 (by decide) (by decide) (by decide) (by decide) (by decide) (e2 a) (e5 b) (e8 c)
  · exact line 0 4 8 (by decide) (by decide) (by decide) (by decide) (by decide) (e0 a) (e4 b) (e8 c)
  · exact line 1 5 6 (by decide) (by decide) (by decide) (by decide) (by decide) (e1 a) (e5 b) (e6 c)
  · exact line 2 3 7 (by decide) (by decide) (by decide) (by decide) (by decide) (e2 a) (e3 b) (e7 c)
  · exact line 0 5 7 (by decide) (by decide) (by decide) (by decide) (by decide) (e0 a) (e5 b) (e7 c)
  · exact line 1 3 8 (by decide) (by decide) (by decide) (by decide) (by decide) (e1 a) (e3 b) (e8 c)
  · exact line 2 4 6 (by decide) (by decide) (by decide) (by decide) (by decide) (e2 a) (e4 b) (e6 c)
def moveI (ds : List (Int × Int)) (q : Int × Int) : List (Int × Int) := ds.map fun z => (z.1 + q.1, z.2 + q.2)
theorem at_move {ds : List (Int × Int)} {q : Int × Int} {j : Int} (h0 : 0 ≤ j) (h1 : j < ds.length) : atQ (moveI ds q) j = ((atQ ds j).1 + q.1, (atQ ds j).2 + q.2) := by
  have hj : j.toNat < ds.length := by omega
  simp [atQ, moveI, List.getD_eq_getElem?_getD, hj]
theorem third_move {ds : List (Int × Int)} (q : Int × Int) : thirdsI (moveI ds q) = thirdsI ds := by
  unfold thirdsI
  have e : (moveI ds q).length = ds.length := by simp [moveI]
  rw [e]
  refine List.filter_congr fun l hl => ?_
  obtain ⟨i, j, k, rfl, h0, h1, h2, h3⟩ := of_lots3 hl
  have a1 := at_move (q := q) (ds := ds) h0 (by omega)
  have a2 := at_move (q := q) (ds := ds) (j := j) (by omega) (by omega)
  have a3 := at_move (q := q) (ds := ds) (j := k) (by omega) (by omega)
  simp only [isThird, sum0, sum1, List.map_cons, List.map_nil, List.sum_cons, List.sum_nil, a1, a2, a3, Int.fmod_eq_emod_of_nonneg _ (show (0:Int) ≤ 3 by decide)]
  congr 1
  · rw [decide_eq_decide]
    omega
  · rw [decide_eq_decide]
    omega
/-! tools: draws, places in crowds -/
theorem ev_drawS {gl : List (Str × D)} {cal : Cal} {s k : Nat} {e : E} {ρ ρ1 : En} {b0 b d r b' t : D} (h0 : ρ[s]? = some (some b0)) (he : evE gl cal e ρ = some (d, ρ1)) (hd : bor d = false) (h1 : ρ1[s]? = some (some b)) (hb : IsBag b) (hc : cal k [b, d] = some (r, [b', t])) (hb' : IsBag b') (hr : bor r = false) (hl : lendOf e = none) :
    evE gl cal (.fc k (.cons (.lend s) (.cons e .nil))) ρ = some (r, ρ1.set s (some b')) := by
  have f1 := bag_frz hb
  have f2 := bag_frz hb'
  have l1 : s < ρ1.length := (List.getElem?_eq_some_iff.mp h1).1
  have hL : lendOf (.lend s) = some s := rfl
  rw [evE, evF]
  simp only [hL, h0, evF, hl, he, hd, lends, fillL, h1, f1, hc, giveL, f2, hr]
  have h1' : ρ1[s] = some b := by
    have z := h1
    rw [List.getElem?_eq_getElem l1] at z
    exact Option.some.inj z
  simp [l1, hc, fillL, h1', giveL, f1, f2, hr]
theorem ev_draw {gl : List (Str × D)} {cal : Cal} {k : Nat} {e : E} {ρ ρ1 : En} {b0 b d r b' t : D} (h0 : ρ[0]? = some (some b0)) (he : evE gl cal e ρ = some (d, ρ1)) (hd : bor d = false) (h1 : ρ1[0]? = some (some b)) (hb : IsBag b) (hc : cal k [b, d] = some (r, [b', t])) (hb' : IsBag b') (hr : bor r = false) (hl : lendOf e = none) :
    evE gl cal (.fc k (.cons (.lend 0) (.cons e .nil))) ρ = some (r, ρ1.set 0 (some b')) := ev_drawS h0 he hd h1 hb hc hb' hr hl
theorem ev_drawL {gl : List (Str × D)} {cal : Cal} {k i : Nat} {ρ : En} {b d r b' t : D} (h0 : ρ[0]? = some (some b)) (hi : ρ[i]? = some (some d)) (h : i ≠ 0) (hd : frz d = true) (hb : IsBag b) (hc : cal k [b, d] = some (r, [b', t])) (hb' : IsBag b') (hr : bor r = false) :
    evE gl cal (.fc k (.cons (.lend 0) (.cons (.lend i) .nil))) ρ = some (r, ρ.set 0 (some b')) := by
  have f1 := bag_frz hb
  have f2 := bag_frz hb'
  have l1 : 0 < ρ.length := (List.getElem?_eq_some_iff.mp h0).1
  have hL : ∀ j, lendOf (.lend j) = some j := fun _ => rfl
  have hi' : (ρ.set 0 none)[i]? = some (some d) := by rw [List.getElem?_set_ne (Ne.symm h)]; exact hi
  rw [evE, evF]
  simp only [hL, h0, evF, hi, lends, fillL, f1, hi', hd, hc, giveL, f2, hr, if_true, ite_true]
  simp [hi', hd, l1, hc, hr, f1, f2, fillL, giveL]
theorem bor_dot (q : Int × Int) : bor (dotD q) = false := rfl
theorem look_dot (q : Int × Int) : look (dotD q) = dotD q := rfl
theorem at_dot (q : Int × Int) : idxS (dotD q) (.int 0) = some (.int q.1) ∧ idxS (dotD q) (.int 1) = some (.int q.2) := ⟨rfl, rfl⟩
theorem atI_map {α : Type} (f : α → D) (xs : List α) (z : α) {j : Int} (h0 : 0 ≤ j) (h1 : j < xs.length) : L2.atI (xs.map f) j = some (f (xs.getD j.toNat z)) := by
  have hj : j.toNat < xs.length := by omega
  have e1 : j < ((xs.map f).length : Nat) := by rw [List.length_map]; exact h1
  unfold L2.atI L2.ixN
  rw [if_pos h0, if_pos e1]
  simp [List.getD_eq_getElem?_getD, hj]
theorem idx_lst (fl : Fl) (ds : List (Int × Int)) {j : Int} (h0 : 0 ≤ j) (h1 : j < ds.length) : idxS (.lst fl (ds.map dotD)) (.int j) = some (dotD (atQ ds j)) := atI_map dotD ds (0, 0) h0 h1
theorem idx_crowd (ds : List (Int × Int)) {j : Int} (h0 : 0 ≤ j) (h1 : j < ds.length) : idxS (crowdD ds) (.int j) = some (dotD (atQ ds j)) := atI_map dotD ds (0, 0) h0 h1
theorem at_mem {ds : List (Int × Int)} {j : Int} (h0 : 0 ≤ j) (h1 : j < ds.length) : atQ ds j ∈ ds := by
  have hj : j.toNat < ds.length := by omega
  unfold atQ
  simp [List.getD_eq_getElem?_getD, hj]
theorem lay_dot (n : Nat) (q : Int × Int) : lay (n + 1) (dotD q) = true := by simp [dotD, lay, layL]
theorem lay_dots (n : Nat) : ∀ ds : List (Int × Int), layL (n + 1) (ds.map dotD) = true
  | [] => rfl
  | q :: ds => by simp only [List.map_cons, layL, lay_dot, lay_dots n ds]; rfl
theorem eqD_dot (a b : Int × Int) : eqD (dotD a) (dotD b) = decide (a = b) := by
  have : decide (a = b) = (a.1 == b.1 && a.2 == b.2) := by
    rw [Bool.eq_iff_iff]
    simp [Prod.ext_iff]
  rw [this]
  simp [eqD, dotD, py, pyL, PyData.eqv, PyData.eqvAll]
theorem any_dot (q : Int × Int) : ∀ ds : List (Int × Int), ((ds.map dotD).any fun z => eqD z (dotD q)) = decide (q ∈ ds)
  | [] => by simp
  | a :: ds => by
    simp only [List.map_cons, List.any_cons, any_dot q ds, eqD_dot, List.mem_cons]
    by_cases h : a = q
    · subst h; simp
    · have h' : ¬ q = a := fun e => h e.symm
      simp [h, h']
theorem notin_dot (f : Fl) (q : Int × Int) (ds : List (Int × Int)) : cmpS .notin (dotD q) (.lst f (ds.map dotD)) = some (.bl (decide (q ∉ ds))) := by
  simp only [cmpS, lay_dot, lay_dots, any_dot]
  simp
theorem look_dots (ds : List (Int × Int)) : lookL (ds.map dotD) = ds.map dotD := (stillL _ (frz_dots ds)).2.1
theorem borL_dots (ds : List (Int × Int)) : borL (ds.map dotD) = false := (stillL _ (frz_dots ds)).2.2
theorem share_dots (ds : List (Int × Int)) : shareL (ds.map dotD) = ds.map dotD := (stillL _ (frz_dots ds)).1
theorem rangeD_mem {lo : Int} {n : Nat} {x : D} (h : x ∈ rangeD lo n) : ∃ k : Nat, k < n ∧ x = .int (lo + (k : Nat)) := by
  simp only [rangeD, List.mem_map, List.mem_range] at h
  obtain ⟨k, hk, rfl⟩ := h
  exact ⟨k, hk, rfl⟩
theorem rangeD_len (lo : Int) (n : Nat) : (rangeD lo n).length = n := by simp [rangeD]
end Pur

namespace Pur
open PySem
/-! _law_free -/
def TurnS (cal : Cal) (k : Nat) : Prop := ∀ a b c : Int × Int, Near a → Near b → cal k [dotD a, dotD b, dotD c] = some (.int (sgnI a b c), [dotD a, dotD b, dotD c])
def LotsS (cal : Cal) (k : Nat) : Prop := ∀ (many : Int) (size : Nat), 0 ≤ many → many ≤ 60 → size ≤ 3 → cal k [.int many, .int size] = some (.lst .own ((lotsI many size).map lotD), [.int many, .int size])
def BowS (cal : Cal) (k : Nat) : Prop := ∀ (b : D) (many : Nat), IsBag b → many ≤ 60 → ∃ ds b', cal k [b, .int many] = some (crowdD ds, [b', .int many]) ∧ IsBag b' ∧ Cr ds ∧ ds.length = many
theorem near_far {q : Int × Int} (h : Far1 q) : Near q := by
  obtain ⟨a, b, c, d⟩ := h
  exact ⟨by omega, by omega, by omega, by omega⟩
theorem of_lots2 {n : Int} {l : List Int} (h : l ∈ lotsI n 2) : ∃ i j, l = [i, j] ∧ 0 ≤ i ∧ i < j ∧ j < n := by
  simp only [lotsI, List.mem_flatMap, growI, List.mem_map, mem_range, List.mem_singleton] at h
  obtain ⟨l1, ⟨l0, rfl, i, hi, rfl⟩, j, hj, rfl⟩ := h
  simp [nextI] at hi hj
  exact ⟨i, j, rfl, by omega, by omega, by omega⟩
def freeIn (kt : Nat) : S := .cons (.asg (.nm 9) (.and_ (.cons (.v .bo 9) (.cons (.cmp .ne (.fc kt (.cons (.idx (.v .bo 7) (.v .bo 10)) (.cons (.idx (.v .bo 7) (.v .bo 11)) (.cons (.lend 8) .nil)))) (.int 0)) .nil)))) .nil
def freeE (x0 x1 x2 x3 x4 x5 x6 : Option D) (ds : List (Int × Int)) (x8 x9 x10 x11 : Option D) : En := [x0, x1, x2, x3, x4, x5, x6, some (.lst .own (ds.map dotD)), x8, x9, x10, x11]
theorem beq_eq_dec (i j : Int) : (i == j) = decide (i = j) := by
  rw [Bool.eq_iff_iff]
  simp
theorem cmp_ne_int (i j : Int) : cmpS .ne (.int i) (.int j) = some (.bl (!decide (i = j))) := by
  simp [cmpS, eqS, lay, eqD, py, eqv_int]
  exact beq_eq_dec i j
theorem cmp_eq_int (i j : Int) : cmpS .eq (.int i) (.int j) = some (.bl (decide (i = j))) := by
  simp [cmpS, eqS, lay, eqD, py, eqv_int]
  exact beq_eq_dec i j
theorem free_in {p : Pg} {cal : Cal} {W kt : Nat} (ht : TurnS cal kt) {x0 x1 x2 x3 x4 x5 x6 x10 x11 : Option D} {ds : List (Int × Int)} {q : Int × Int} (hd : ∀ z ∈ ds, Far1 z) {g : Bool} :
    ∃ g' x10' x11', forL [] (.tp (.cons (.nm 10) (.cons (.nm 11) .nil))) (evS p.gs cal W (freeIn kt)) ((lotsI ds.length 2).map lotD) (freeE x0 x1 x2 x3 x4 x5 x6 ds (some (dotD q)) (some (.bl g)) x10 x11) =
      some (.nx (freeE x0 x1 x2 x3 x4 x5 x6 ds (some (dotD q)) (some (.bl g')) x10' x11')) ∧ (g' = true → g = true) := by
  let I : List D → En → Prop := fun items ρ => ∃ (rest : List (List Int)) (g' : Bool) (y10 y11 : Option D), items = rest.map lotD ∧ (∀ l ∈ rest, l ∈ lotsI ds.length 2) ∧ (g' = true → g = true) ∧
    ρ = freeE x0 x1 x2 x3 x4 x5 x6 ds (some (dotD q)) (some (.bl g')) y10 y11
  obtain ⟨ρ', e, _, g', y10, y11, _, _, hg, rfl⟩ := forL_inv (wp := []) (t := .tp (.cons (.nm 10) (.cons (.nm 11) .nil))) (f := evS p.gs cal W (freeIn kt)) I (items := (lotsI ds.length 2).map lotD) (ρ := freeE x0 x1 x2 x3 x4 x5 x6 ds (some (dotD q)) (some (.bl g)) x10 x11)
    ⟨lotsI ds.length 2, g, x10, x11, rfl, fun _ h => h, fun h => h, rfl⟩ (by
      rintro x xs ρ ⟨rest, g', y10, y11, q1, q2, q3, rfl⟩
      cases rest with
      | nil => cases q1
      | cons l rest =>
        simp only [List.map_cons, List.cons.injEq] at q1
        obtain ⟨rfl, rfl⟩ := q1
        obtain ⟨i, j, rfl, h0, h1, h2⟩ := of_lots2 (q2 l List.mem_cons_self)
        have a1 := idx_lst .bor ds (j := i) h0 (by omega)
        have a2 := idx_lst .bor ds (j := j) (by omega) (by omega)
        have m1 := at_mem (ds := ds) (j := i) h0 (by omega)
        have m2 := at_mem (ds := ds) (j := j) (by omega) (by omega)
        have tt := ht (atQ ds i) (atQ ds j) q (near_far (hd _ m1)) (near_far (hd _ m2))
        refine ⟨freeE x0 x1 x2 x3 x4 x5 x6 ds (some (dotD q)) (some (.bl g')) (some (.int i)) (some (.int j)), freeE x0 x1 x2 x3 x4 x5 x6 ds (some (dotD q)) (some (.bl (g' && !decide (sgnI (atQ ds i) (atQ ds j) q = 0)))) (some (.int i)) (some (.int j)), ?_, .inl ?_, rest, _, _, _, rfl, fun l hl => q2 l (List.mem_cons_of_mem _ hl), fun h => q3 (by simp at h; exact h.1), rfl⟩
        · simp [bindT, bindTs, lotD, bor, freeE]
        · cases g'
          · simp [freeIn, freeE, evS, evE, evAnd, isNil, look, bindT, bor]
          · simp [freeIn, freeE, evS, evE, evAnd, isNil, evF, lendOf, lends, look, look_dots, bor, borL_dots, isP, a1, a2, bor_dot, frz_dot, fillL, giveL, tt, cmp_ne_int, bindT])
  exact ⟨g', y10, y11, e, hg⟩

def freeArg : E := .ife (.or_ (.cons (.cmp .lt (.v .bo 6) (.int 5)) (.cons (.cmp .gt (.bi .len (.cons (.v .bo 7) .nil)) (.int 2)) .nil))) (.v .bo 4) (.ife (.cmp .le (.bin .mul (.int 3) (.v .bo 4)) (.int 10000)) (.bin .mul (.int 3) (.v .bo 4)) (.v .bo 4))
theorem free_arg {gl : List (Str × D)} {cal : Cal} {x0 x1 x2 x3 x5 x8 x9 x10 x11 : Option D} {far kind : Int} {ds : List (Int × Int)} (h0 : 0 ≤ far) (h1 : far ≤ 10000) :
    ∃ f, evE gl cal freeArg (freeE x0 x1 x2 x3 (some (.int far)) x5 (some (.int kind)) ds x8 x9 x10 x11) = some (.int f, freeE x0 x1 x2 x3 (some (.int far)) x5 (some (.int kind)) ds x8 x9 x10 x11) ∧ 0 ≤ f ∧ f ≤ 10000 := by
  have m3 : ∀ i : Int, mulOk 3 i = true := fun i => mulOk_l (by decide)
  by_cases k1 : kind < 5
  · exact ⟨far, by simp [freeArg, freeE, evE, evOr, isNil, look, bor, isP, cmpS, k1], h0, h1⟩
  · by_cases k2 : (2 : Int) < ds.length
    · exact ⟨far, by simp [freeArg, freeE, evE, evA, evOr, isNil, look, look_dots, bor, borL_dots, isP, cmpS, biS, lenS, k1, k2], h0, h1⟩
    · by_cases k3 : 3 * far ≤ 10000
      · exact ⟨3 * far, by simp [freeArg, freeE, evE, evA, evOr, isNil, look, look_dots, bor, borL_dots, isP, cmpS, biS, lenS, k1, k2, binS, m3, k3], by omega, k3⟩
      · exact ⟨far, by simp [freeArg, freeE, evE, evA, evOr, isNil, look, look_dots, bor, borL_dots, isP, cmpS, biS, lenS, k1, k2, binS, m3, k3], h0, h1⟩
def freeBd (kt kd kl : Nat) : S := .cons (.asg (.nm 8) (.fc kd (.cons (.lend 0) (.cons freeArg .nil)))) (.cons (.asg (.nm 9) (.cmp .notin (.v .bo 8) (.v .bo 7))) (.cons (.for_ (.tp (.cons (.nm 10) (.cons (.nm 11) .nil))) (.fc kl (.cons (.bi .len (.cons (.v .bo 7) .nil)) (.cons (.int 2) .nil))) (freeIn kt) []) (.cons (.ifs (.and_ (.cons (.v .bo 9) (.cons (.cmp .lt (.bi .len (.cons (.v .bo 7) .nil)) (.v .bo 3)) .nil))) (.cons (.app 7 (.v .bo 8)) .nil) .nil) .nil)))
theorem free_step {p : Pg} {cal : Cal} {W kt kd kl : Nat} (ht : TurnS cal kt) (hd : DotS cal kd) (hl : LotsS cal kl) {b x1 x2 x5 : Option D} {bag : D} {x8 x9 x10 x11 : Option D} {far kind : Int} {many : Nat} {ds : List (Int × Int)} (hb : IsBag bag) (h0 : 0 ≤ far) (h1 : far ≤ 10000) (hm : many ≤ 60) (cr : Cr ds) (len : ds.length ≤ many) :
    ∃ bag' ds' x8' x9' x10' x11', evS p.gs cal W (freeBd kt kd kl) (freeE (some bag) x1 x2 (some (.int many)) (some (.int far)) x5 (some (.int kind)) ds x8 x9 x10 x11) =
      some (.nx (freeE (some bag') x1 x2 (some (.int many)) (some (.int far)) x5 (some (.int kind)) ds' x8' x9' x10' x11')) ∧ IsBag bag' ∧ Cr ds' ∧ ds'.length ≤ many := by
  obtain ⟨f, ea, f0, f1⟩ := free_arg (gl := p.gs) (cal := cal) (x0 := some bag) (x1 := x1) (x2 := x2) (x3 := some (.int many)) (x5 := x5) (x8 := x8) (x9 := x9) (x10 := x10) (x11 := x11) (kind := kind) (ds := ds) h0 h1
  obtain ⟨q, bag', ed, hb', q1, q2, q3, q4⟩ := hd bag f hb f0 (by omega)
  have s1 : evS p.gs cal W (.asg (.nm 8) (.fc kd (.cons (.lend 0) (.cons freeArg .nil)))) (freeE (some bag) x1 x2 (some (.int many)) (some (.int far)) x5 (some (.int kind)) ds x8 x9 x10 x11) =
      some (.nx (freeE (some bag') x1 x2 (some (.int many)) (some (.int far)) x5 (some (.int kind)) ds (some (dotD q)) x9 x10 x11)) := by
    have := ev_draw (k := kd) (b0 := bag) (by simp [freeE]) ea rfl (by simp [freeE]) hb ed hb' (bor_dot q) rfl
    simp only [evS, this]
    simp [freeE, bindT, bor_dot]
  have s2 : evS p.gs cal W (.asg (.nm 9) (.cmp .notin (.v .bo 8) (.v .bo 7))) (freeE (some bag') x1 x2 (some (.int many)) (some (.int far)) x5 (some (.int kind)) ds (some (dotD q)) x9 x10 x11) =
      some (.nx (freeE (some bag') x1 x2 (some (.int many)) (some (.int far)) x5 (some (.int kind)) ds (some (dotD q)) (some (.bl (decide (q ∉ ds)))) x10 x11)) := by
    simp [evS, evE, freeE, look_dot, look, look_dots, bor_dot, isP, notin_dot, bindT, bor]
  obtain ⟨g', y10, y11, ef, hg⟩ := free_in (p := p) (W := W) ht (x0 := some bag') (x1 := x1) (x2 := x2) (x3 := some (.int many)) (x4 := some (.int far)) (x5 := x5) (x6 := some (.int kind)) (x10 := x10) (x11 := x11) (ds := ds) (q := q) (fun z hz => cr.far z hz) (g := decide (q ∉ ds))
  have lots := hl ds.length 2 (by omega) (by omega) (by omega)
  have it : evI p.gs cal (.fc kl (.cons (.bi .len (.cons (.v .bo 7) .nil)) (.cons (.int 2) .nil))) (freeE (some bag') x1 x2 (some (.int many)) (some (.int far)) x5 (some (.int kind)) ds (some (dotD q)) (some (.bl (decide (q ∉ ds)))) x10 x11) =
      some ((lotsI ds.length 2).map lotD, .lst .own ((lotsI ds.length 2).map lotD), freeE (some bag') x1 x2 (some (.int many)) (some (.int far)) x5 (some (.int kind)) ds (some (dotD q)) (some (.bl (decide (q ∉ ds)))) x10 x11) := by
    have fl := frz_lots (lotsI ds.length 2)
    have bl := (stillL _ fl).2.2
    have lots' : cal kl [.int ds.length, .int 2] = some (.lst .own ((lotsI ds.length 2).map lotD), [.int ds.length, .int 2]) := lots
    unfold evI
    simp [evE, evF, evA, lendOf, lends, freeE, look, look_dots, bor, borL_dots, isP, biS, lenS, fillL, giveL, lots', bl, itOf, seqOf, fl]
  have bl := (stillL _ (frz_lots (lotsI ds.length 2))).2.2
  have s3 := (ev_for (gl := p.gs) (cal := cal) (W := W) (t := .tp (.cons (.nm 10) (.cons (.nm 11) .nil))) (b := freeIn kt) (wp := []) it (by simp [bor, bl])).trans ef
  have s4 : ∃ ds', evS p.gs cal W (.ifs (.and_ (.cons (.v .bo 9) (.cons (.cmp .lt (.bi .len (.cons (.v .bo 7) .nil)) (.v .bo 3)) .nil))) (.cons (.app 7 (.v .bo 8)) .nil) .nil) (freeE (some bag') x1 x2 (some (.int many)) (some (.int far)) x5 (some (.int kind)) ds (some (dotD q)) (some (.bl g')) y10 y11) =
      some (.nx (freeE (some bag') x1 x2 (some (.int many)) (some (.int far)) x5 (some (.int kind)) ds' (some (dotD q)) (some (.bl g')) y10 y11)) ∧ Cr ds' ∧ ds'.length ≤ many := by
    cases g' with
    | false => exact ⟨ds, by simp [evS, evE, evAnd, isNil, freeE, look], cr, len⟩
    | true =>
      have nq : q ∉ ds := of_decide_eq_true (hg rfl)
      by_cases h : (ds.length : Int) < many
      · have sz := sizeLine_val
        have h' : ds.length < sizeLine := by omega
        refine ⟨ds ++ [q], by simp [evS, evE, evA, evAnd, isNil, freeE, look, look_dot, look_dots, bor, bor_dot, borL_dots, isP, biS, lenS, cmpS, h, h'], ⟨?_, ?_⟩, by simp; omega⟩
        · rw [List.nodup_append]
          refine ⟨cr.nd, by simp, fun a ha b hb => ?_⟩
          simp only [List.mem_singleton] at hb
          subst hb
          exact fun e => nq (e ▸ ha)
        · intro z hz
          rcases List.mem_append.mp hz with hz | hz
          · exact cr.far z hz
          · simp only [List.mem_singleton] at hz
            subst hz
            exact ⟨by omega, by omega, by omega, by omega⟩
      · exact ⟨ds, by simp [evS, evE, evA, evAnd, isNil, freeE, look, look_dots, bor, borL_dots, isP, biS, lenS, cmpS, h], cr, len⟩
  obtain ⟨ds', e4, cr', len'⟩ := s4
  refine ⟨bag', ds', some (dotD q), some (.bl g'), y10, y11, ?_, hb', cr', len'⟩
  show evS p.gs cal W (.cons _ (.cons _ (.cons _ (.cons _ .nil)))) _ = _
  rw [ev_cons s1, ev_cons s2, ev_cons s3, ev_cons e4]
  rfl
end Pur

namespace Pur
open PySem
theorem ev_rngI {gl : List (Str × D)} {cal : Cal} {a : E} {ρ ρ1 : En} {n : Nat} (ha : evE gl cal a ρ = some (.int (n : Nat), ρ1)) (h : n ≤ 1000000) : evI gl cal (.rng a) ρ = some (rangeD 0 n, .non, ρ1) := by
  have z := ev_rng ha (by omega) (by omega)
  rw [Int.toNat_natCast] at z
  unfold evI
  rw [z]
  rfl
def FreeS (cal : Cal) (k : Nat) : Prop := ∀ (b : D) (lo hi : Int), IsBag b → 1 ≤ lo → lo ≤ hi → hi ≤ 60 → ∃ ds b', cal k [b, .int lo, .int hi] = some (crowdD ds, [b', .int lo, .int hi]) ∧ IsBag b' ∧ Cr ds ∧ lo ≤ ds.length ∧ ds.length ≤ hi
/-- an int of a few -/
theorem some_int {cal : Cal} {k : Nat} (hs : SomeS cal k) {b : D} {is : List Int} (hb : IsBag b) (hn : is ≠ []) (hl : is.length < 1000) : ∃ i b' t, i ∈ is ∧ cal k [b, .lst .own (is.map .int)] = some (.int i, [b', t]) ∧ IsBag b' := by
  obtain ⟨d, b', t, hd, e, hb'⟩ := hs b (is.map .int) hb (frz_ints is) (by simpa using hn) (by simp; omega)
  obtain ⟨i, hi, rfl⟩ := List.mem_map.mp hd
  exact ⟨i, b', t, hi, e, hb'⟩
theorem free_far {gl : List (Str × D)} {cal : Cal} {ks : Nat} (hs : SomeS cal ks) {b : D} {x1 x2 x4 x5 x6 x8 x9 x10 x11 : Option D} {many : Int} {ds : List (Int × Int)} (hb : IsBag b) :
    ∃ far b', evE gl cal (.ife (.cmp .lt (.v .bo 3) (.int 8)) (.fc ks (.cons (.lend 0) (.cons (.lst (.cons (.int 3) (.cons (.int 6) (.cons (.int 6) (.cons (.int 30) (.cons (.int 10000) .nil)))))) .nil))) (.fc ks (.cons (.lend 0) (.cons (.lst (.cons (.int 8) (.cons (.int 12) (.cons (.int 30) (.cons (.int 10000) .nil))))) .nil))))
      (freeE (some b) x1 x2 (some (.int many)) x4 x5 x6 ds x8 x9 x10 x11) = some (.int far, freeE (some b') x1 x2 (some (.int many)) x4 x5 x6 ds x8 x9 x10 x11) ∧ IsBag b' ∧ 0 ≤ far ∧ far ≤ 10000 := by
  have f0 := bag_frz hb
  by_cases h : many < 8
  · obtain ⟨i, b', t, hi, e, hb'⟩ := some_int hs (is := [3, 6, 6, 30, 10000]) hb (by simp) (by simp)
    refine ⟨i, b', ?_, hb', ?_⟩
    · have := ev_draw (gl := gl) (k := ks) (b0 := b) (e := .lst (.cons (.int 3) (.cons (.int 6) (.cons (.int 6) (.cons (.int 30) (.cons (.int 10000) .nil)))))) (d := .lst .own (([3, 6, 6, 30, 10000] : List Int).map .int)) (ρ := freeE (some b) x1 x2 (some (.int many)) x4 x5 x6 ds x8 x9 x10 x11) (ρ1 := freeE (some b) x1 x2 (some (.int many)) x4 x5 x6 ds x8 x9 x10 x11) (by simp [freeE]) (by simp [evE, evA, bor, borL]) (by simp [bor, borL]) (by simp [freeE]) hb e hb' rfl rfl
      rw [evE]
      simp only [show evE gl cal (.cmp .lt (.v .bo 3) (.int 8)) (freeE (some b) x1 x2 (some (.int many)) x4 x5 x6 ds x8 x9 x10 x11) = some (.bl true, freeE (some b) x1 x2 (some (.int many)) x4 x5 x6 ds x8 x9 x10 x11) from by simp [evE, freeE, look, bor, isP, cmpS, h], this]
      simp [freeE]
    · simp at hi
      omega
  · obtain ⟨i, b', t, hi, e, hb'⟩ := some_int hs (is := [8, 12, 30, 10000]) hb (by simp) (by simp)
    refine ⟨i, b', ?_, hb', ?_⟩
    · have := ev_draw (gl := gl) (k := ks) (b0 := b) (e := .lst (.cons (.int 8) (.cons (.int 12) (.cons (.int 30) (.cons (.int 10000) .nil))))) (d := .lst .own (([8, 12, 30, 10000] : List Int).map .int)) (ρ := freeE (some b) x1 x2 (some (.int many)) x4 x5 x6 ds x8 x9 x10 x11) (ρ1 := freeE (some b) x1 x2 (some (.int many)) x4 x5 x6 ds x8 x9 x10 x11) (by simp [freeE]) (by simp [evE, evA, bor, borL]) (by simp [bor, borL]) (by simp [freeE]) hb e hb' rfl rfl
      rw [evE]
      simp only [show evE gl cal (.cmp .lt (.v .bo 3) (.int 8)) (freeE (some b) x1 x2 (some (.int many)) x4 x5 x6 ds x8 x9 x10 x11) = some (.bl false, freeE (some b) x1 x2 (some (.int many)) x4 x5 x6 ds x8 x9 x10 x11) from by simp [evE, freeE, look, bor, isP, cmpS, h], this]
      simp [freeE]
    · simp at hi
      omega
theorem free_run {p : Pg} {cal : Cal} {W kp ks kt kd kl kb : Nat} (hp : PickS cal kp) (hs : SomeS cal ks) (ht : TurnS cal kt) (hd : DotS cal kd) (hl : LotsS cal kl) (hw : BowS cal kb) {b : D} {lo hi : Int} (hb : IsBag b) (l1 : 1 ≤ lo) (l2 : lo ≤ hi) (l3 : hi ≤ 60) :
    ∃ ds b', runF p W cal ⟨"_law_free", 3, n_law_free, b_law_free kp ks kt kd kl kb⟩ [b, .int lo, .int hi] = some (crowdD ds, [b', .int lo, .int hi]) ∧ IsBag b' ∧ Cr ds ∧ lo ≤ ds.length ∧ ds.length ≤ hi := by
  obtain ⟨r, b1, e1, r0, r1, hb1⟩ := hp b (hi - lo + 1) hb (by omega) (by omega)
  obtain ⟨kind, b2, e2, k0, k1, hb2⟩ := hp b1 6 hb1 (by omega) (by omega)
  obtain ⟨many, hmany⟩ := Int.eq_ofNat_of_zero_le (show 0 ≤ lo + r by omega)
  have hm : many ≤ 60 := by omega
  have f0 := bag_frz hb
  have f1 := bag_frz hb1
  have f2 := bag_frz hb2
  have h1 : evS p.gs cal W (.asg (.nm 3) (.bin .add (.v .bo 1) (.fc kp (.cons (.lend 0) (.cons (.bin .add (.bin .sub (.v .bo 2) (.v .bo 1)) (.int 1)) .nil))))) [some b, some (.int lo), some (.int hi), none, none, none, none, none, none, none, none, none] =
      some (.nx [some b1, some (.int lo), some (.int hi), some (.int many), none, none, none, none, none, none, none, none]) := by
    simp [evS, evE, evF, lendOf, lends, look, bor, isP, binS, addS, fillL, giveL, f0, f1, e1, bindT, hmany]
  have h2 : evS p.gs cal W (.par 6 7 (.fc kp (.cons (.lend 0) (.cons (.int 6) .nil))) (.lst .nil)) [some b1, some (.int lo), some (.int hi), some (.int many), none, none, none, none, none, none, none, none] =
      some (.nx (freeE (some b2) (some (.int lo)) (some (.int hi)) (some (.int many)) none none (some (.int kind)) [] none none none none)) := by
    simp [evS, evE, evA, evF, lendOf, lends, bor, borL, isP, fillL, giveL, f1, f2, e2, putD, freeE]
  have as : asgs (b_law_free kp ks kt kd kl kb) = [3, 6, 7, 4, 5, 8, 9, 10, 11, 9] := rfl
  have fin : ∀ (ds : List (Int × Int)) (b' : D) (ρ : En), evS p.gs cal W (b_law_free kp ks kt kd kl kb) [some b, some (.int lo), some (.int hi), none, none, none, none, none, none, none, none, none] = some (.rt (crowdD ds) ρ) → ρ[0]? = some (some b') → runF p W cal ⟨"_law_free", 3, n_law_free, b_law_free kp ks kt kd kl kb⟩ [b, .int lo, .int hi] = some (crowdD ds, [b', .int lo, .int hi]) := by
    intro ds b' ρ hbd h0
    unfold runF
    simp [n_law_free, f0, bor, borL, hbd, finL, frz, as, h0]
  by_cases hk : kind = 0
  · subst hk
    obtain ⟨ds, b3, e3, hb3, cr, len⟩ := hw b2 many hb2 hm
    refine ⟨ds, b3, fin ds b3 (freeE (some b3) (some (.int lo)) (some (.int hi)) (some (.int many)) none none (some (.int 0)) [] none none none none) ?_ (by simp [freeE]), hb3, cr, by omega, by omega⟩
    have bow := ev_drawL (gl := p.gs) (k := kb) (i := 3) (ρ := freeE (some b2) (some (.int lo)) (some (.int hi)) (some (.int many)) none none (some (.int 0)) [] none none none none) (by simp [freeE]) (by simp [freeE]) (by decide) rfl hb2 e3 hb3 (frz_crowd ds).2.1
    have h3 : evS p.gs cal W (.ifs (.cmp .eq (.v .bo 6) (.int 0)) (.cons (.ret (.fc kb (.cons (.lend 0) (.cons (.lend 3) .nil)))) .nil) .nil) (freeE (some b2) (some (.int lo)) (some (.int hi)) (some (.int many)) none none (some (.int 0)) [] none none none none) =
        some (.rt (crowdD ds) (freeE (some b3) (some (.int lo)) (some (.int hi)) (some (.int many)) none none (some (.int 0)) [] none none none none)) := by
      have c : evE p.gs cal (.cmp .eq (.v .bo 6) (.int 0)) (freeE (some b2) (some (.int lo)) (some (.int hi)) (some (.int many)) none none (some (.int 0)) [] none none none none) = some (.bl true, freeE (some b2) (some (.int lo)) (some (.int hi)) (some (.int many)) none none (some (.int 0)) [] none none none none) := by
        simp [evE, freeE, look, bor, isP, cmp_eq_int]
      rw [evS]
      simp only [c]
      rw [ev_cons_rt (ev_ret bow (frz_crowd ds).2.1)]
      simp [freeE]
    show evS p.gs cal W (.cons _ (.cons _ (.cons _ _))) _ = _
    rw [ev_cons h1, ev_cons h2, ev_cons_rt h3]
  · obtain ⟨far, b3, e3, hb3, fr0, fr1⟩ := free_far (gl := p.gs) hs (x1 := some (.int lo)) (x2 := some (.int hi)) (x4 := none) (x5 := none) (x6 := some (.int kind)) (x8 := none) (x9 := none) (x10 := none) (x11 := none) (many := many) (ds := []) hb2
    have h3 : evS p.gs cal W (.ifs (.cmp .eq (.v .bo 6) (.int 0)) (.cons (.ret (.fc kb (.cons (.lend 0) (.cons (.lend 3) .nil)))) .nil) .nil) (freeE (some b2) (some (.int lo)) (some (.int hi)) (some (.int many)) none none (some (.int kind)) [] none none none none) =
        some (.nx (freeE (some b2) (some (.int lo)) (some (.int hi)) (some (.int many)) none none (some (.int kind)) [] none none none none)) := by
      have c : evE p.gs cal (.cmp .eq (.v .bo 6) (.int 0)) (freeE (some b2) (some (.int lo)) (some (.int hi)) (some (.int many)) none none (some (.int kind)) [] none none none none) = some (.bl false, freeE (some b2) (some (.int lo)) (some (.int hi)) (some (.int many)) none none (some (.int kind)) [] none none none none) := by
        simp [evE, freeE, look, bor, isP, cmp_eq_int, hk]
      rw [evS]
      simp only [c]
      rw [evS]
    have h4 : evS p.gs cal W (.asg (.nm 4) (.ife (.cmp .lt (.v .bo 3) (.int 8)) (.fc ks (.cons (.lend 0) (.cons (.lst (.cons (.int 3) (.cons (.int 6) (.cons (.int 6) (.cons (.int 30) (.cons (.int 10000) .nil)))))) .nil))) (.fc ks (.cons (.lend 0) (.cons (.lst (.cons (.int 8) (.cons (.int 12) (.cons (.int 30) (.cons (.int 10000) .nil))))) .nil))))) (freeE (some b2) (some (.int lo)) (some (.int hi)) (some (.int many)) none none (some (.int kind)) [] none none none none) =
        some (.nx (freeE (some b3) (some (.int lo)) (some (.int hi)) (some (.int many)) (some (.int far)) none (some (.int kind)) [] none none none none)) := by
      simp only [evS, e3]
      simp [freeE, bindT, bor]
    let I : List D → En → Prop := fun items ρ => ∃ bag ds x5 x8 x9 x10 x11, ρ = freeE (some bag) (some (.int lo)) (some (.int hi)) (some (.int many)) (some (.int far)) x5 (some (.int kind)) ds x8 x9 x10 x11 ∧ IsBag bag ∧ Cr ds ∧ ds.length ≤ many ∧ ∀ x ∈ items, bor x = false
    obtain ⟨ρ', e4, bag, ds, x5, x8, x9, x10, x11, rfl, hb4, cr, len, _⟩ := forL_inv (wp := []) (t := .nm 5) (f := evS p.gs cal W (freeBd kt kd kl)) I (items := rangeD 0 (60 * many)) (ρ := freeE (some b3) (some (.int lo)) (some (.int hi)) (some (.int many)) (some (.int far)) none (some (.int kind)) [] none none none none)
      ⟨b3, [], none, none, none, none, none, rfl, hb3, ⟨List.nodup_nil, fun q h => nomatch h⟩, by simp, fun x hx => by obtain ⟨k, _, rfl⟩ := rangeD_mem hx; rfl⟩ (by
        rintro x xs ρ ⟨bag, ds, x5, x8, x9, x10, x11, rfl, hb4, cr, len, hx⟩
        obtain ⟨bag', ds', x8', x9', x10', x11', e, hb', cr', len'⟩ := free_step (p := p) (cal := cal) (W := W) ht hd hl (x1 := some (.int lo)) (x2 := some (.int hi)) (x5 := some x) (b := some bag) (x8 := x8) (x9 := x9) (x10 := x10) (x11 := x11) (kind := kind) hb4 fr0 fr1 hm cr len
        exact ⟨_, _, by simp [bindT, freeE, hx x List.mem_cons_self], .inl e, bag', ds', some x, x8', x9', x10', x11', rfl, hb', cr', len', fun y hy => hx y (List.mem_cons_of_mem _ hy)⟩)
    have mu : mulOk 60 (many : Int) = true := mulOk_l (by decide)
    have itl := ev_rngI (gl := p.gs) (cal := cal) (a := .bin .mul (.int 60) (.v .bo 3)) (n := 60 * many) (ρ := freeE (some b3) (some (.int lo)) (some (.int hi)) (some (.int many)) (some (.int far)) none (some (.int kind)) [] none none none none) (ρ1 := freeE (some b3) (some (.int lo)) (some (.int hi)) (some (.int many)) (some (.int far)) none (some (.int kind)) [] none none none none)
      (by simp [evE, freeE, look, bor, isP, binS, mu]) (by omega)
    have h5 := (ev_for (gl := p.gs) (cal := cal) (W := W) (it := .rng (.bin .mul (.int 60) (.v .bo 3))) (t := .nm 5) (b := freeBd kt kd kl) (wp := []) itl rfl).trans e4
    have tl : ∀ ρ, evS p.gs cal W (b_law_free kp ks kt kd kl kb) ρ = evS p.gs cal W (.cons (.asg (.nm 3) (.bin .add (.v .bo 1) (.fc kp (.cons (.lend 0) (.cons (.bin .add (.bin .sub (.v .bo 2) (.v .bo 1)) (.int 1)) .nil))))) (.cons (.par 6 7 (.fc kp (.cons (.lend 0) (.cons (.int 6) .nil))) (.lst .nil)) (.cons (.ifs (.cmp .eq (.v .bo 6) (.int 0)) (.cons (.ret (.fc kb (.cons (.lend 0) (.cons (.lend 3) .nil)))) .nil) .nil) (.cons (.asg (.nm 4) (.ife (.cmp .lt (.v .bo 3) (.int 8)) (.fc ks (.cons (.lend 0) (.cons (.lst (.cons (.int 3) (.cons (.int 6) (.cons (.int 6) (.cons (.int 30) (.cons (.int 10000) .nil)))))) .nil))) (.fc ks (.cons (.lend 0) (.cons (.lst (.cons (.int 8) (.cons (.int 12) (.cons (.int 30) (.cons (.int 10000) .nil))))) .nil))))) (.cons (.for_ (.nm 5) (.rng (.bin .mul (.int 60) (.v .bo 3))) (freeBd kt kd kl) []) (.cons (.ret (.ife (.cmp .eq (.bi .len (.cons (.v .bo 7) .nil)) (.v .bo 3)) (.bi .tuple (.cons (.v .bo 7) .nil)) (.fc kb (.cons (.lend 0) (.cons (.lend 3) .nil))))) .nil)))))) ρ := fun _ => rfl
    by_cases hlen : ds.length = many
    · refine ⟨ds, bag, fin ds bag _ (by
        rw [tl, ev_cons h1, ev_cons h2, ev_cons h3, ev_cons h4, ev_cons h5, ev_cons_rt (ev_ret (d := crowdD ds) (ρ1 := freeE (some bag) (some (.int lo)) (some (.int hi)) (some (.int many)) (some (.int far)) x5 (some (.int kind)) ds x8 x9 x10 x11) (by
          simp [evE, evA, freeE, look, look_dots, bor, borL_dots, isP, biS, lenS, tupS, cmp_eq_int, hlen, crowdD]) (frz_crowd ds).2.1)]) (by simp [freeE]), hb4, cr, by omega, by omega⟩
    · obtain ⟨ds2, b5, e5, hb5, cr5, len5⟩ := hw bag many hb4 hm
      have bow := ev_drawL (gl := p.gs) (k := kb) (i := 3) (ρ := freeE (some bag) (some (.int lo)) (some (.int hi)) (some (.int many)) (some (.int far)) x5 (some (.int kind)) ds x8 x9 x10 x11) (by simp [freeE]) (by simp [freeE]) (by decide) rfl hb4 e5 hb5 (frz_crowd ds2).2.1
      have c : evE p.gs cal (.cmp .eq (.bi .len (.cons (.v .bo 7) .nil)) (.v .bo 3)) (freeE (some bag) (some (.int lo)) (some (.int hi)) (some (.int many)) (some (.int far)) x5 (some (.int kind)) ds x8 x9 x10 x11) = some (.bl false, freeE (some bag) (some (.int lo)) (some (.int hi)) (some (.int many)) (some (.int far)) x5 (some (.int kind)) ds x8 x9 x10 x11) := by
        have hlen' : ¬ (ds.length : Int) = many := by omega
        simp [evE, evA, freeE, look, look_dots, bor, borL_dots, isP, biS, lenS, cmp_eq_int, hlen']
      refine ⟨ds2, b5, fin ds2 b5 _ (by
        rw [tl, ev_cons h1, ev_cons h2, ev_cons h3, ev_cons h4, ev_cons h5, ev_cons_rt (ev_ret (d := crowdD ds2) (ρ1 := (freeE (some bag) (some (.int lo)) (some (.int hi)) (some (.int many)) (some (.int far)) x5 (some (.int kind)) ds x8 x9 x10 x11).set 0 (some b5)) (by
          rw [evE]
          simp only [c]
          exact bow) (frz_crowd ds2).2.1)]) (by simp [freeE]), hb5, cr5, by omega, by omega⟩
end Pur

namespace Pur
open PySem
/-! _law_crowd: what it is that is made -/
theorem cmp_lt (i j : Int) : cmpS .lt (.int i) (.int j) = some (.bl (decide (i < j))) := rfl
theorem cmp_le (i j : Int) : cmpS .le (.int i) (.int j) = some (.bl (decide (i ≤ j))) := rfl
theorem cmp_gt (i j : Int) : cmpS .gt (.int i) (.int j) = some (.bl (decide (j < i))) := rfl
theorem cmp_ge (i j : Int) : cmpS .ge (.int i) (.int j) = some (.bl (decide (j ≤ i))) := rfl
theorem cut_take_n {α : Type} (xs : List α) (k : Nat) : cutD xs none (some (k : Int)) = xs.take k := by
  unfold cutD
  rw [HT.sIx_none, HT.sIx_nat, List.drop_zero, Nat.sub_zero]
  simp [List.take_eq_take_iff]
def spare0 : List (Int × Int) := (List.range 24).map fun k => (9000 + (k : Nat), 9000)
def spareL (ds : List (Int × Int)) : List (Int × Int) := spare0.filter fun z => decide (z ∉ ds)
theorem spare_nd : spare0.Nodup := by decide +kernel
theorem spare_far : ∀ z ∈ spare0, Far1 z := by
  intro z hz
  simp only [spare0, List.mem_map, List.mem_range] at hz
  obtain ⟨k, hk, rfl⟩ := hz
  simp only [Far1]
  omega
theorem filter_len {α : Type} [DecidableEq α] {L : List α} (h : L.Nodup) : ∀ ds : List α, L.length ≤ (L.filter fun z => decide (z ∉ ds)).length + ds.length
  | [] => by
    rw [List.filter_eq_self.mpr (fun _ _ => by simp)]
    simp
  | d :: ds => by
    have ih := filter_len h ds
    have e : (L.filter fun z => decide (z ∉ d :: ds)) = (L.filter fun z => decide (z ∉ ds)).erase d := by
      rw [List.Nodup.erase_eq_filter (h.filter _), List.filter_filter]
      refine List.filter_congr fun x _ => ?_
      by_cases h1 : x = d <;> by_cases h2 : x ∈ ds <;> simp [h1, h2]
    rw [e, List.length_cons]
    have := List.le_length_erase (a := d) (l := L.filter fun z => decide (z ∉ ds))
    omega
theorem made_ok {ds : List (Int × Int)} {many : Nat} (cr : Cr ds) (len : ds.length ≤ many) (hm : many ≤ 24) : Cr (ds ++ (spareL ds).take (many - ds.length)) ∧ (ds ++ (spareL ds).take (many - ds.length)).length = many := by
  have fl : spare0.length ≤ (spareL ds).length + ds.length := by
    refine Nat.le_trans (filter_len spare_nd ds) (Nat.add_le_add_right (Nat.le_of_eq (congrArg List.length ?_)) _)
    unfold spareL
    refine List.filter_congr fun x _ => ?_
    by_cases hx : x ∈ ds <;> simp [hx]
  have l0 : spare0.length = 24 := by simp [spare0]
  refine ⟨⟨?_, fun z hz => ?_⟩, ?_⟩
  · rw [List.nodup_append]
    refine ⟨cr.nd, (spare_nd.filter _).sublist (List.take_sublist _ _), fun a ha b hb e => ?_⟩
    subst e
    have := List.mem_of_mem_take hb
    unfold spareL at this
    rw [List.mem_filter] at this
    exact (of_decide_eq_true this.2) ha
  · rcases List.mem_append.mp hz with h | h
    · exact cr.far z h
    · have := List.mem_of_mem_take h
      unfold spareL at this
      rw [List.mem_filter] at this
      exact spare_far z this.1
  · rw [List.length_append, List.length_take]
    omega
/-- a dot of a few -/
theorem some_dotq {cal : Cal} {k : Nat} (hs : SomeS cal k) {b : D} {qs : List (Int × Int)} (hb : IsBag b) (hn : qs ≠ []) (hl : qs.length < 1000) : ∃ q b' t, q ∈ qs ∧ cal k [b, .lst .own (qs.map dotD)] = some (dotD q, [b', t]) ∧ IsBag b' := by
  obtain ⟨d, b', t, hd, e, hb'⟩ := hs b (qs.map dotD) hb (frz_dots qs) (by simpa using hn) (by simp; omega)
  obtain ⟨i, hi, rfl⟩ := List.mem_map.mp hd
  exact ⟨i, b', t, hi, e, hb'⟩
def crE (x0 x1 x2 x3 x4 x5 x6 : Option D) (ds : List (Int × Int)) (x8 x9 x10 x11 x12 : Option D) : En := [x0, x1, x2, x3, x4, x5, x6, some (.lst .own (ds.map dotD)), x8, x9, x10, x11, x12]
theorem cr_app {gl : List (Str × D)} {cal : Cal} {W : Nat} {x0 x1 x2 x3 x4 x5 x8 x9 x10 x12 : Option D} {many : Nat} {ds : List (Int × Int)} {q : Int × Int} (hq : Far1 q) (hm : many ≤ 60) (cr : Cr ds) (len : ds.length ≤ many) :
    ∃ ds', evS gl cal W (.ifs (.and_ (.cons (.cmp .notin (.v .bo 11) (.v .bo 7)) (.cons (.cmp .lt (.bi .len (.cons (.v .bo 7) .nil)) (.v .bo 6)) .nil))) (.cons (.app 7 (.v .bo 11)) .nil) .nil) (crE x0 x1 x2 x3 x4 x5 (some (.int many)) ds x8 x9 x10 (some (dotD q)) x12) =
      some (.nx (crE x0 x1 x2 x3 x4 x5 (some (.int many)) ds' x8 x9 x10 (some (dotD q)) x12)) ∧ Cr ds' ∧ ds'.length ≤ many := by
  by_cases nq : q ∈ ds
  · exact ⟨ds, by simp [evS, evE, evAnd, isNil, crE, look, look_dot, look_dots, bor_dot, isP, notin_dot, nq], cr, len⟩
  · by_cases h : (ds.length : Int) < many
    · have sz := sizeLine_val
      have h' : ds.length < sizeLine := by omega
      refine ⟨ds ++ [q], by simp [evS, evE, evA, evAnd, isNil, crE, look, look_dot, look_dots, bor, bor_dot, borL_dots, isP, notin_dot, nq, biS, lenS, cmp_lt, h, h'], ⟨?_, ?_⟩, by simp; omega⟩
      · rw [List.nodup_append]
        refine ⟨cr.nd, by simp, fun a ha b hb => ?_⟩
        simp only [List.mem_singleton] at hb
        subst hb
        exact fun e => nq (e ▸ ha)
      · intro z hz
        rcases List.mem_append.mp hz with hz | hz
        · exact cr.far z hz
        · simp only [List.mem_singleton] at hz
          subst hz
          exact hq
    · exact ⟨ds, by simp [evS, evE, evA, evAnd, isNil, crE, look, look_dot, look_dots, bor, bor_dot, borL_dots, isP, notin_dot, nq, biS, lenS, cmp_lt, h], cr, len⟩
def crOn (kp : Nat) : S := .ifs (.or_ (.cons (.cmp .eq (.v .bo 5) (.int 1)) (.cons (.and_ (.cons (.cmp .eq (.v .bo 5) (.int 2)) (.cons (.cmp .gt (.fc kp (.cons (.lend 0) (.cons (.int 3) .nil))) (.int 0)) .nil))) .nil))) (.cons (.asg (.nm 11) (.tup (.cons (.bin .add (.idx (.v .bo 10) (.int 0)) (.bin .mul (.v .bo 12) (.idx (.v .bo 9) (.int 0)))) (.cons (.bin .add (.idx (.v .bo 10) (.int 1)) (.bin .mul (.v .bo 12) (.idx (.v .bo 9) (.int 1)))) .nil)))) .nil) .nil
theorem cr_on {gl : List (Str × D)} {cal : Cal} {W kp : Nat} (hp : PickS cal kp) {bag : D} {x1 x2 x3 x4 x6 x8 : Option D} {kind t : Int} {ds : List (Int × Int)} {st off q : Int × Int} (hb : IsBag bag) (t0 : -12 ≤ t) (t1 : t ≤ 12) (hs : -3 ≤ st.1 ∧ st.1 ≤ 3 ∧ -3 ≤ st.2 ∧ st.2 ≤ 3) (ho : -20 ≤ off.1 ∧ off.1 ≤ 20 ∧ -20 ≤ off.2 ∧ off.2 ≤ 20) (hq : Far1 q) :
    ∃ bag' q', evS gl cal W (crOn kp) (crE (some bag) x1 x2 x3 x4 (some (.int kind)) x6 ds x8 (some (dotD st)) (some (dotD off)) (some (dotD q)) (some (.int t))) =
      some (.nx (crE (some bag') x1 x2 x3 x4 (some (.int kind)) x6 ds x8 (some (dotD st)) (some (dotD off)) (some (dotD q')) (some (.int t)))) ∧ IsBag bag' ∧ Far1 q' := by
  have mu : ∀ j : Int, mulOk t j = true := fun j => mulOk_l (by simp only [small64, decide_eq_true_eq]; omega)
  have bd : ∀ j : Int, -3 ≤ j → j ≤ 3 → -36 ≤ t * j ∧ t * j ≤ 36 := by
    intro j h1 h2
    have : j = -3 ∨ j = -2 ∨ j = -1 ∨ j = 0 ∨ j = 1 ∨ j = 2 ∨ j = 3 := by omega
    rcases this with rfl | rfl | rfl | rfl | rfl | rfl | rfl <;> omega
  have b1 := bd st.1 hs.1 hs.2.1
  have b2 := bd st.2 hs.2.2.1 hs.2.2.2
  have far : Far1 (off.1 + t * st.1, off.2 + t * st.2) := by
    simp only [Far1]
    omega
  have as : ∀ bg : D, evS gl cal W (.asg (.nm 11) (.tup (.cons (.bin .add (.idx (.v .bo 10) (.int 0)) (.bin .mul (.v .bo 12) (.idx (.v .bo 9) (.int 0)))) (.cons (.bin .add (.idx (.v .bo 10) (.int 1)) (.bin .mul (.v .bo 12) (.idx (.v .bo 9) (.int 1)))) .nil)))) (crE (some bg) x1 x2 x3 x4 (some (.int kind)) x6 ds x8 (some (dotD st)) (some (dotD off)) (some (dotD q)) (some (.int t))) =
      some (.nx (crE (some bg) x1 x2 x3 x4 (some (.int kind)) x6 ds x8 (some (dotD st)) (some (dotD off)) (some (dotD (off.1 + t * st.1, off.2 + t * st.2))) (some (.int t)))) := by
    intro bg
    have t : evE gl cal (.tup (.cons (.bin .add (.idx (.v .bo 10) (.int 0)) (.bin .mul (.v .bo 12) (.idx (.v .bo 9) (.int 0)))) (.cons (.bin .add (.idx (.v .bo 10) (.int 1)) (.bin .mul (.v .bo 12) (.idx (.v .bo 9) (.int 1)))) .nil))) (crE (some bg) x1 x2 x3 x4 (some (.int kind)) x6 ds x8 (some (dotD st)) (some (dotD off)) (some (dotD q)) (some (.int t))) = some (dotD (off.1 + t * st.1, off.2 + t * st.2), crE (some bg) x1 x2 x3 x4 (some (.int kind)) x6 ds x8 (some (dotD st)) (some (dotD off)) (some (dotD q)) (some (.int t))) := by
      simp only [evE, evA]
      simp [crE, look, look_dot, bor_dot, at_dot, bor, isP, binS, addS, mu]
      rfl
    rw [evS, t]
    simp [bindT, bor_dot, crE]
  unfold crOn
  by_cases k1 : kind = 1
  · refine ⟨bag, _, ?_, hb, far⟩
    have c : evE gl cal (.or_ (.cons (.cmp .eq (.v .bo 5) (.int 1)) (.cons (.and_ (.cons (.cmp .eq (.v .bo 5) (.int 2)) (.cons (.cmp .gt (.fc kp (.cons (.lend 0) (.cons (.int 3) .nil))) (.int 0)) .nil))) .nil))) (crE (some bag) x1 x2 x3 x4 (some (.int kind)) x6 ds x8 (some (dotD st)) (some (dotD off)) (some (dotD q)) (some (.int t))) = some (.bl true, crE (some bag) x1 x2 x3 x4 (some (.int kind)) x6 ds x8 (some (dotD st)) (some (dotD off)) (some (dotD q)) (some (.int t))) := by
      simp [evE, evOr, isNil, crE, look, bor, isP, cmp_eq_int, k1]
    rw [evS]
    simp only [c]
    rw [ev_cons (as bag), evS]
  · by_cases k2 : kind = 2
    · obtain ⟨r, b', e, r0, r1, hb'⟩ := hp bag 3 hb (by omega) (by omega)
      have f1 := bag_frz hb
      have f2 := bag_frz hb'
      have c : evE gl cal (.or_ (.cons (.cmp .eq (.v .bo 5) (.int 1)) (.cons (.and_ (.cons (.cmp .eq (.v .bo 5) (.int 2)) (.cons (.cmp .gt (.fc kp (.cons (.lend 0) (.cons (.int 3) .nil))) (.int 0)) .nil))) .nil))) (crE (some bag) x1 x2 x3 x4 (some (.int kind)) x6 ds x8 (some (dotD st)) (some (dotD off)) (some (dotD q)) (some (.int t))) = some (.bl (decide (0 < r)), crE (some b') x1 x2 x3 x4 (some (.int kind)) x6 ds x8 (some (dotD st)) (some (dotD off)) (some (dotD q)) (some (.int t))) := by
        simp [evE, evOr, evAnd, isNil, evF, lendOf, lends, fillL, giveL, f1, f2, e, crE, look, bor, isP, cmp_eq_int, cmp_gt, k1, k2]
      by_cases hr : 0 < r
      · refine ⟨b', _, ?_, hb', far⟩
        rw [evS]
        simp only [c, hr, decide_true]
        rw [ev_cons (as b'), evS]
      · refine ⟨b', q, ?_, hb', hq⟩
        rw [evS]
        simp only [c, hr, decide_false]
        rw [evS]
    · refine ⟨bag, q, ?_, hb, hq⟩
      have c : evE gl cal (.or_ (.cons (.cmp .eq (.v .bo 5) (.int 1)) (.cons (.and_ (.cons (.cmp .eq (.v .bo 5) (.int 2)) (.cons (.cmp .gt (.fc kp (.cons (.lend 0) (.cons (.int 3) .nil))) (.int 0)) .nil))) .nil))) (crE (some bag) x1 x2 x3 x4 (some (.int kind)) x6 ds x8 (some (dotD st)) (some (dotD off)) (some (dotD q)) (some (.int t))) = some (.bl false, crE (some bag) x1 x2 x3 x4 (some (.int kind)) x6 ds x8 (some (dotD st)) (some (dotD off)) (some (dotD q)) (some (.int t))) := by
        simp [evE, evOr, evAnd, isNil, crE, look, bor, isP, cmp_eq_int, k1, k2]
      rw [evS]
      simp only [c]
      rw [evS]
end Pur

namespace Pur
open PySem
def crBd (kp kd : Nat) : S := .cons (.asg (.nm 11) (.fc kd (.cons (.lend 0) (.cons (.lend 8) .nil)))) (.cons (.asg (.nm 12) (.bin .sub (.fc kp (.cons (.lend 0) (.cons (.int 25) .nil))) (.int 12))) (.cons (crOn kp) (.cons (.ifs (.and_ (.cons (.cmp .notin (.v .bo 11) (.v .bo 7)) (.cons (.cmp .lt (.bi .len (.cons (.v .bo 7) .nil)) (.v .bo 6)) .nil))) (.cons (.app 7 (.v .bo 11)) .nil) .nil) .nil)))
theorem cr_step {p : Pg} {cal : Cal} {W kp kd : Nat} (hp : PickS cal kp) (hd : DotS cal kd) {bag : D} {x1 x2 x3 x4 x11 x12 : Option D} {kind far : Int} {many : Nat} {ds : List (Int × Int)} {st off : Int × Int} (hb : IsBag bag) (h0 : 0 ≤ far) (h1 : far ≤ 10000) (hs : -3 ≤ st.1 ∧ st.1 ≤ 3 ∧ -3 ≤ st.2 ∧ st.2 ≤ 3) (ho : -20 ≤ off.1 ∧ off.1 ≤ 20 ∧ -20 ≤ off.2 ∧ off.2 ≤ 20) (hm : many ≤ 60) (cr : Cr ds) (len : ds.length ≤ many) :
    ∃ bag' ds' x11' x12', evS p.gs cal W (crBd kp kd) (crE (some bag) x1 x2 x3 x4 (some (.int kind)) (some (.int many)) ds (some (.int far)) (some (dotD st)) (some (dotD off)) x11 x12) =
      some (.nx (crE (some bag') x1 x2 x3 x4 (some (.int kind)) (some (.int many)) ds' (some (.int far)) (some (dotD st)) (some (dotD off)) x11' x12')) ∧ IsBag bag' ∧ Cr ds' ∧ ds'.length ≤ many := by
  obtain ⟨q, b1, ed, hb1, q1, q2, q3, q4⟩ := hd bag far hb h0 (by omega)
  obtain ⟨r, b2, ep, r0, r1, hb2⟩ := hp b1 25 hb1 (by omega) (by omega)
  have f1 := bag_frz hb1
  have f2 := bag_frz hb2
  have s1 : evS p.gs cal W (.asg (.nm 11) (.fc kd (.cons (.lend 0) (.cons (.lend 8) .nil)))) (crE (some bag) x1 x2 x3 x4 (some (.int kind)) (some (.int many)) ds (some (.int far)) (some (dotD st)) (some (dotD off)) x11 x12) =
      some (.nx (crE (some b1) x1 x2 x3 x4 (some (.int kind)) (some (.int many)) ds (some (.int far)) (some (dotD st)) (some (dotD off)) (some (dotD q)) x12)) := by
    have := ev_drawL (gl := p.gs) (k := kd) (i := 8) (ρ := crE (some bag) x1 x2 x3 x4 (some (.int kind)) (some (.int many)) ds (some (.int far)) (some (dotD st)) (some (dotD off)) x11 x12) (by simp [crE]) (by simp [crE]) (by decide) rfl hb ed hb1 (bor_dot q)
    simp only [evS, this]
    simp [crE, bindT, bor_dot]
  have s2 : evS p.gs cal W (.asg (.nm 12) (.bin .sub (.fc kp (.cons (.lend 0) (.cons (.int 25) .nil))) (.int 12))) (crE (some b1) x1 x2 x3 x4 (some (.int kind)) (some (.int many)) ds (some (.int far)) (some (dotD st)) (some (dotD off)) (some (dotD q)) x12) =
      some (.nx (crE (some b2) x1 x2 x3 x4 (some (.int kind)) (some (.int many)) ds (some (.int far)) (some (dotD st)) (some (dotD off)) (some (dotD q)) (some (.int (r - 12))))) := by
    simp [evS, evE, evF, lendOf, lends, crE, fillL, giveL, f1, f2, ep, bor, isP, binS, bindT]
  obtain ⟨b3, q', s3, hb3, hq'⟩ := cr_on (gl := p.gs) (W := W) hp (bag := b2) (x1 := x1) (x2 := x2) (x3 := x3) (x4 := x4) (x6 := some (.int many)) (x8 := some (.int far)) (kind := kind) (t := r - 12) (ds := ds) (st := st) (off := off) (q := q) hb2 (by omega) (by omega) hs ho ⟨by omega, by omega, by omega, by omega⟩
  obtain ⟨ds', s4, cr', len'⟩ := cr_app (gl := p.gs) (cal := cal) (W := W) (x0 := some b3) (x1 := x1) (x2 := x2) (x3 := x3) (x4 := x4) (x5 := some (.int kind)) (x8 := some (.int far)) (x9 := some (dotD st)) (x10 := some (dotD off)) (x12 := some (.int (r - 12))) hq' hm cr len
  refine ⟨b3, ds', some (dotD q'), some (.int (r - 12)), ?_, hb3, cr', len'⟩
  show evS p.gs cal W (.cons _ (.cons _ (.cons _ (.cons _ .nil)))) _ = _
  rw [ev_cons s1, ev_cons s2, ev_cons s3, ev_cons s4]
  rfl
def crSp : E := .lc (.tup (.cons (.bin .add (.int 9000) (.v .bo 12)) (.cons (.int 9000) .nil))) (.nm 12) (.rng (.int 24)) (.cmp .notin (.tup (.cons (.bin .add (.int 9000) (.v .bo 12)) (.cons (.int 9000) .nil))) (.v .bo 7)) [12]
theorem cr_spare {gl : List (Str × D)} {cal : Cal} {x0 x1 x2 x3 x4 x5 x6 x8 x9 x10 x11 x12 : Option D} {ds : List (Int × Int)} :
    ∃ y12, evE gl cal crSp (crE x0 x1 x2 x3 x4 x5 x6 ds x8 x9 x10 x11 x12) = some (.lst .own ((spareL ds).map dotD), crE x0 x1 x2 x3 x4 x5 x6 ds x8 x9 x10 x11 y12) := by
  have rng := ev_rng (gl := gl) (cal := cal) (a := .int 24) (j := 24) (ρ := crE x0 x1 x2 x3 x4 x5 x6 ds x8 x9 x10 x11 x12) (ρ1 := crE x0 x1 x2 x3 x4 x5 x6 ds x8 x9 x10 x11 x12) (by simp [evE]) (by omega) (by omega)
  have hL : lcL (lcF gl cal (.tup (.cons (.bin .add (.int 9000) (.v .bo 12)) (.cons (.int 9000) .nil))) (.nm 12) (.cmp .notin (.tup (.cons (.bin .add (.int 9000) (.v .bo 12)) (.cons (.int 9000) .nil))) (.v .bo 7)) [12]) (rangeD 0 24) (wipeD (crE x0 x1 x2 x3 x4 x5 x6 ds x8 x9 x10 x11 x12) [12]) =
      some ((rangeD 0 24).flatMap (fun x => match x with | .int j => if (9000 + j, 9000) ∈ ds then [] else [dotD (9000 + j, 9000)] | _ => []), crE x0 x1 x2 x3 x4 x5 x6 ds x8 x9 x10 x11 none) := by
    refine lcL_flat fun x hx => ?_
    obtain ⟨k, hk, rfl⟩ := rangeD_mem hx
    generalize (0 + (k : Int)) = j
    let z : Int × Int := (9000 + j, 9000)
    have tp : evE gl cal (.tup (.cons (.bin .add (.int 9000) (.v .bo 12)) (.cons (.int 9000) .nil))) (crE x0 x1 x2 x3 x4 x5 x6 ds x8 x9 x10 x11 (some (.int j))) = some (dotD z, crE x0 x1 x2 x3 x4 x5 x6 ds x8 x9 x10 x11 (some (.int j))) := by
      simp [evE, evA, crE, look, bor, isP, binS, addS, dotD, z]
    have cm : evE gl cal (.cmp .notin (.tup (.cons (.bin .add (.int 9000) (.v .bo 12)) (.cons (.int 9000) .nil))) (.v .bo 7)) (crE x0 x1 x2 x3 x4 x5 x6 ds x8 x9 x10 x11 (some (.int j))) = some (.bl (decide (z ∉ ds)), crE x0 x1 x2 x3 x4 x5 x6 ds x8 x9 x10 x11 (some (.int j))) := by
      rw [evE, tp]
      have v7 : evE gl cal (.v .bo 7) (crE x0 x1 x2 x3 x4 x5 x6 ds x8 x9 x10 x11 (some (.int j))) = some (.lst .bor (ds.map dotD), crE x0 x1 x2 x3 x4 x5 x6 ds x8 x9 x10 x11 (some (.int j))) := by simp [evE, crE, look, look_dots]
      simp only [v7, bor_dot, notin_dot]
      rfl
    have bt : bindT (.nm 12) (.int j) (crE x0 x1 x2 x3 x4 x5 x6 ds x8 x9 x10 x11 none) = some (crE x0 x1 x2 x3 x4 x5 x6 ds x8 x9 x10 x11 (some (.int j))) := by simp [bindT, crE, bor]
    have w : wipeD (crE x0 x1 x2 x3 x4 x5 x6 ds x8 x9 x10 x11 x12) [12] = crE x0 x1 x2 x3 x4 x5 x6 ds x8 x9 x10 x11 none := by simp [wipeD, crE]
    rw [w]
    by_cases hm : z ∈ ds
    · rw [decide_eq_false (not_not_intro hm)] at cm
      simp only [lcF, bt, cm]
      rw [if_pos hm]
      simp [wipeD, crE]
    · rw [decide_eq_true hm] at cm
      simp only [lcF, bt, cm, tp, bor_dot]
      rw [if_neg hm]
      simp [wipeD, crE, z]
  have fm : (rangeD 0 24).flatMap (fun x => match x with | .int j => if (9000 + j, 9000) ∈ ds then [] else [dotD (9000 + j, 9000)] | _ => []) = (spareL ds).map dotD := by
    unfold rangeD spareL spare0
    generalize List.range 24 = L
    induction L with
    | nil => rfl
    | cons k L ih =>
      simp only [List.map_cons, List.flatMap_cons, ih, List.filter_cons]
      by_cases hm : (9000 + (k : Int), (9000 : Int)) ∈ ds
      · simp [hm]
      · simp [hm]
  rw [fm] at hL
  have lc := ev_lc (gl := gl) (cal := cal) (kp := .non) (by unfold evI; rw [rng]; rfl) (by simp [bor]) (by simp [rangeD]) (by simp [tgs]) hL
  unfold crSp
  rw [lc]
  cases x12 with
  | none => exact ⟨none, by simp [restore, crE]⟩
  | some d =>
    by_cases hd : frz d = true
    · exact ⟨some d, by simp [restore, crE, hd]⟩
    · exact ⟨none, by simp [restore, crE, hd]⟩
def MakeS (cal : Cal) (k : Nat) : Prop := ∀ (b : D) (lo hi : Int), IsBag b → 1 ≤ lo → lo ≤ hi → hi ≤ 24 → ∃ ds b', cal k [b, .int lo, .int hi] = some (crowdD ds, [b', .int lo, .int hi]) ∧ IsBag b' ∧ Cr ds ∧ lo ≤ ds.length ∧ ds.length ≤ hi
def crSt : List (Int × Int) := [(1, 0), (0, 1), (1, 1), (2, -1), (3, 2)]
theorem make_run {p : Pg} {cal : Cal} {W kp ks kd kf : Nat} (hp : PickS cal kp) (hs : SomeS cal ks) (hd : DotS cal kd) (hf : FreeS cal kf) {b : D} {lo hi : Int} (hb : IsBag b) (l1 : 1 ≤ lo) (l2 : lo ≤ hi) (l3 : hi ≤ 24) :
    ∃ ds b', runF p W cal ⟨"_law_crowd", 3, n_law_crowd, b_law_crowd kp ks kd kf⟩ [b, .int lo, .int hi] = some (crowdD ds, [b', .int lo, .int hi]) ∧ IsBag b' ∧ Cr ds ∧ lo ≤ ds.length ∧ ds.length ≤ hi := by
  obtain ⟨kind, b1, e1, k0, k1, hb1⟩ := hp b 6 hb (by omega) (by omega)
  obtain ⟨r, b2, e2, r0, r1, hb2⟩ := hp b1 (hi - lo + 1) hb1 (by omega) (by omega)
  obtain ⟨many, hmany⟩ := Int.eq_ofNat_of_zero_le (show 0 ≤ lo + r by omega)
  have hm : many ≤ 24 := by omega
  have f0 := bag_frz hb
  have f1 := bag_frz hb1
  have f2 := bag_frz hb2
  have h1 : evS p.gs cal W (.par 5 6 (.fc kp (.cons (.lend 0) (.cons (.int 6) .nil))) (.bin .add (.v .bo 1) (.fc kp (.cons (.lend 0) (.cons (.bin .add (.bin .sub (.v .bo 2) (.v .bo 1)) (.int 1)) .nil))))) [some b, some (.int lo), some (.int hi), none, none, none, none, none, none, none, none, none, none] =
      some (.nx [some b2, some (.int lo), some (.int hi), none, none, some (.int kind), some (.int many), none, none, none, none, none, none]) := by
    simp [evS, evE, evA, evF, lendOf, lends, look, bor, isP, binS, addS, fillL, giveL, f0, f1, f2, e1, e2, putD, hmany]
  have as : asgs (b_law_crowd kp ks kd kf) = [5, 6, 7, 8, 9, 10, 3, 11, 12, 11, 4] := rfl
  have fin : ∀ (ds : List (Int × Int)) (b' : D) (ρ : En), evS p.gs cal W (b_law_crowd kp ks kd kf) [some b, some (.int lo), some (.int hi), none, none, none, none, none, none, none, none, none, none] = some (.rt (crowdD ds) ρ) → ρ[0]? = some (some b') → runF p W cal ⟨"_law_crowd", 3, n_law_crowd, b_law_crowd kp ks kd kf⟩ [b, .int lo, .int hi] = some (crowdD ds, [b', .int lo, .int hi]) := by
    intro ds b' ρ hbd h0
    unfold runF
    simp [n_law_crowd, f0, bor, borL, hbd, finL, frz, as, h0]
  have tl : ∀ ρ, evS p.gs cal W (b_law_crowd kp ks kd kf) ρ = evS p.gs cal W (.cons (.par 5 6 (.fc kp (.cons (.lend 0) (.cons (.int 6) .nil))) (.bin .add (.v .bo 1) (.fc kp (.cons (.lend 0) (.cons (.bin .add (.bin .sub (.v .bo 2) (.v .bo 1)) (.int 1)) .nil))))) (.cons (.ifs (.cmp .eq (.v .bo 5) (.int 0)) (.cons (.ret (.fc kf (.cons (.lend 0) (.cons (.lend 1) (.cons (.lend 2) .nil))))) .nil) .nil) (.cons (.asg (.tp (.cons (.nm 7) (.cons (.nm 8) .nil))) (.tup (.cons (.lst .nil) (.cons (.fc ks (.cons (.lend 0) (.cons (.lst (.cons (.int 2) (.cons (.int 2) (.cons (.int 3) (.cons (.int 10) (.cons (.int 10000) .nil)))))) .nil))) .nil)))) (.cons (.par 9 10 (.fc ks (.cons (.lend 0) (.cons (.lst (.cons (.tup (.cons (.int 1) (.cons (.int 0) .nil))) (.cons (.tup (.cons (.int 0) (.cons (.int 1) .nil))) (.cons (.tup (.cons (.int 1) (.cons (.int 1) .nil))) (.cons (.tup (.cons (.int 2) (.cons (.neg (.int 1)) .nil))) (.cons (.tup (.cons (.int 3) (.cons (.int 2) .nil))) .nil)))))) .nil))) (.fc kd (.cons (.lend 0) (.cons (.int 20) .nil)))) (.cons (.for_ (.nm 3) (.rng (.bin .mul (.int 30) (.v .bo 6))) (crBd kp kd) []) (.cons (.asg (.nm 4) crSp) (.cons (.ret (.bi .tuple (.cons (.bin .add (.v .bo 7) (.slc (.v .bo 4) .abs_ (.bin .sub (.v .bo 6) (.bi .len (.cons (.v .bo 7) .nil))))) .nil))) .nil))))))) ρ := fun _ => rfl
  have cmp : evE p.gs cal (.cmp .eq (.v .bo 5) (.int 0)) [some b2, some (.int lo), some (.int hi), none, none, some (.int kind), some (.int many), none, none, none, none, none, none] = some (.bl (decide (kind = 0)), [some b2, some (.int lo), some (.int hi), none, none, some (.int kind), some (.int many), none, none, none, none, none, none]) := by
    simp [evE, look, bor, isP, cmp_eq_int]
  by_cases hk : kind = 0
  · obtain ⟨ds, b3, e3, hb3, cr, d1, d2⟩ := hf b2 lo hi hb2 l1 l2 (by omega)
    have f3 := bag_frz hb3
    have bc := (frz_crowd ds).2.1
    have ev : evE p.gs cal (.fc kf (.cons (.lend 0) (.cons (.lend 1) (.cons (.lend 2) .nil)))) [some b2, some (.int lo), some (.int hi), none, none, some (.int kind), some (.int many), none, none, none, none, none, none] = some (crowdD ds, [some b3, some (.int lo), some (.int hi), none, none, some (.int kind), some (.int many), none, none, none, none, none, none]) := by
      simp [evE, evF, lendOf, lends, fillL, giveL, f2, f3, frz, e3, bc]
    have h2 : evS p.gs cal W (.ifs (.cmp .eq (.v .bo 5) (.int 0)) (.cons (.ret (.fc kf (.cons (.lend 0) (.cons (.lend 1) (.cons (.lend 2) .nil))))) .nil) .nil) [some b2, some (.int lo), some (.int hi), none, none, some (.int kind), some (.int many), none, none, none, none, none, none] =
        some (.rt (crowdD ds) [some b3, some (.int lo), some (.int hi), none, none, some (.int kind), some (.int many), none, none, none, none, none, none]) := by
      rw [decide_eq_true hk] at cmp
      rw [evS]
      simp only [cmp]
      rw [ev_cons_rt (ev_ret ev bc)]
    exact ⟨ds, b3, fin ds b3 _ (by rw [tl, ev_cons h1, ev_cons_rt h2]) rfl, hb3, cr, d1, d2⟩
  · have h2 : evS p.gs cal W (.ifs (.cmp .eq (.v .bo 5) (.int 0)) (.cons (.ret (.fc kf (.cons (.lend 0) (.cons (.lend 1) (.cons (.lend 2) .nil))))) .nil) .nil) [some b2, some (.int lo), some (.int hi), none, none, some (.int kind), some (.int many), none, none, none, none, none, none] =
        some (.nx [some b2, some (.int lo), some (.int hi), none, none, some (.int kind), some (.int many), none, none, none, none, none, none]) := by
      rw [decide_eq_false hk] at cmp
      rw [evS]
      simp only [cmp]
      rw [evS]
    obtain ⟨far, b3, t3, hfar, e3, hb3⟩ := some_int hs (is := [2, 2, 3, 10, 10000]) hb2 (by simp) (by simp)
    have far0 : 0 ≤ far ∧ far ≤ 10000 := by simp at hfar; omega
    have f3 := bag_frz hb3
    have h3 : evS p.gs cal W (.asg (.tp (.cons (.nm 7) (.cons (.nm 8) .nil))) (.tup (.cons (.lst .nil) (.cons (.fc ks (.cons (.lend 0) (.cons (.lst (.cons (.int 2) (.cons (.int 2) (.cons (.int 3) (.cons (.int 10) (.cons (.int 10000) .nil)))))) .nil))) .nil)))) [some b2, some (.int lo), some (.int hi), none, none, some (.int kind), some (.int many), none, none, none, none, none, none] =
        some (.nx (crE (some b3) (some (.int lo)) (some (.int hi)) none none (some (.int kind)) (some (.int many)) [] (some (.int far)) none none none none)) := by
      have e3' : cal ks [b2, .lst .own [.int 2, .int 2, .int 3, .int 10, .int 10000]] = some (.int far, [b3, t3]) := e3
      simp [evS, evE, evA, evF, lendOf, lends, bor, borL, isP, fillL, giveL, f2, f3, e3', bindT, bindTs, crE]
    obtain ⟨st, b4, t4, hst, e4, hb4⟩ := some_dotq hs (qs := crSt) hb3 (by simp [crSt]) (by simp [crSt])
    have st0 : -3 ≤ st.1 ∧ st.1 ≤ 3 ∧ -3 ≤ st.2 ∧ st.2 ≤ 3 := by
      simp only [crSt, List.mem_cons, List.not_mem_nil, or_false] at hst
      rcases hst with rfl | rfl | rfl | rfl | rfl <;> decide
    obtain ⟨off, b5, e5, hb5, o1, o2, o3, o4⟩ := hd b4 20 hb4 (by omega) (by omega)
    have f4 := bag_frz hb4
    have f5 := bag_frz hb5
    have h4 : evS p.gs cal W (.par 9 10 (.fc ks (.cons (.lend 0) (.cons (.lst (.cons (.tup (.cons (.int 1) (.cons (.int 0) .nil))) (.cons (.tup (.cons (.int 0) (.cons (.int 1) .nil))) (.cons (.tup (.cons (.int 1) (.cons (.int 1) .nil))) (.cons (.tup (.cons (.int 2) (.cons (.neg (.int 1)) .nil))) (.cons (.tup (.cons (.int 3) (.cons (.int 2) .nil))) .nil)))))) .nil))) (.fc kd (.cons (.lend 0) (.cons (.int 20) .nil)))) (crE (some b3) (some (.int lo)) (some (.int hi)) none none (some (.int kind)) (some (.int many)) [] (some (.int far)) none none none none) =
        some (.nx (crE (some b5) (some (.int lo)) (some (.int hi)) none none (some (.int kind)) (some (.int many)) [] (some (.int far)) (some (dotD st)) (some (dotD off)) none none)) := by
      have e4' : cal ks [b3, .lst .own [.tup [.int 1, .int 0], .tup [.int 0, .int 1], .tup [.int 1, .int 1], .tup [.int 2, .int (-1)], .tup [.int 3, .int 2]]] = some (dotD st, [b4, t4]) := e4
      simp [evS, evE, evA, evF, lendOf, lends, bor, borL, isP, fillL, giveL, f3, f4, f5, e4', e5, bor_dot, putD, crE]
    let I : List D → En → Prop := fun items ρ => ∃ bag ds x3 x11 x12, ρ = crE (some bag) (some (.int lo)) (some (.int hi)) x3 none (some (.int kind)) (some (.int many)) ds (some (.int far)) (some (dotD st)) (some (dotD off)) x11 x12 ∧ IsBag bag ∧ Cr ds ∧ ds.length ≤ many ∧ ∀ x ∈ items, bor x = false
    obtain ⟨ρ', e6, bag, ds, x3, x11, x12, rfl, hb6, cr, len, _⟩ := forL_inv (wp := []) (t := .nm 3) (f := evS p.gs cal W (crBd kp kd)) I (items := rangeD 0 (30 * many)) (ρ := crE (some b5) (some (.int lo)) (some (.int hi)) none none (some (.int kind)) (some (.int many)) [] (some (.int far)) (some (dotD st)) (some (dotD off)) none none)
      ⟨b5, [], none, none, none, rfl, hb5, ⟨List.nodup_nil, fun q h => nomatch h⟩, by simp, fun x hx => by obtain ⟨k, _, rfl⟩ := rangeD_mem hx; rfl⟩ (by
        rintro x xs ρ ⟨bag, ds, x3, x11, x12, rfl, hb6, cr, len, hx⟩
        obtain ⟨bag', ds', x11', x12', e, hb', cr', len'⟩ := cr_step (p := p) (cal := cal) (W := W) hp hd (x1 := some (.int lo)) (x2 := some (.int hi)) (x3 := some x) (x4 := none) (x11 := x11) (x12 := x12) (kind := kind) hb6 far0.1 far0.2 st0 ⟨o1, o2, o3, o4⟩ (by omega) cr len
        exact ⟨_, _, by simp [bindT, crE, hx x List.mem_cons_self], .inl e, bag', ds', some x, x11', x12', rfl, hb', cr', len', fun y hy => hx y (List.mem_cons_of_mem _ hy)⟩)
    have mu : mulOk 30 (many : Int) = true := mulOk_l (by decide)
    have itl := ev_rngI (gl := p.gs) (cal := cal) (a := .bin .mul (.int 30) (.v .bo 6)) (n := 30 * many) (ρ := crE (some b5) (some (.int lo)) (some (.int hi)) none none (some (.int kind)) (some (.int many)) [] (some (.int far)) (some (dotD st)) (some (dotD off)) none none) (ρ1 := crE (some b5) (some (.int lo)) (some (.int hi)) none none (some (.int kind)) (some (.int many)) [] (some (.int far)) (some (dotD st)) (some (dotD off)) none none)
      (by simp [evE, crE, look, bor, isP, binS, mu]) (by omega)
    have h5 := (ev_for (gl := p.gs) (cal := cal) (W := W) (it := .rng (.bin .mul (.int 30) (.v .bo 6))) (t := .nm 3) (b := crBd kp kd) (wp := []) itl rfl).trans e6
    obtain ⟨y12, e7⟩ := cr_spare (gl := p.gs) (cal := cal) (x0 := some bag) (x1 := some (.int lo)) (x2 := some (.int hi)) (x3 := x3) (x4 := none) (x5 := some (.int kind)) (x6 := some (.int many)) (x8 := some (.int far)) (x9 := some (dotD st)) (x10 := some (dotD off)) (x11 := x11) (x12 := x12) (ds := ds)
    have h6 : evS p.gs cal W (.asg (.nm 4) crSp) (crE (some bag) (some (.int lo)) (some (.int hi)) x3 none (some (.int kind)) (some (.int many)) ds (some (.int far)) (some (dotD st)) (some (dotD off)) x11 x12) =
        some (.nx (crE (some bag) (some (.int lo)) (some (.int hi)) x3 (some (.lst .own ((spareL ds).map dotD))) (some (.int kind)) (some (.int many)) ds (some (.int far)) (some (dotD st)) (some (dotD off)) x11 y12)) := by
      simp only [evS, e7]
      simp [bindT, crE, bor, borL_dots]
    obtain ⟨m1, m2⟩ := made_ok cr len hm
    have sub : ((many : Int) - (ds.length : Int)) = ((many - ds.length : Nat) : Int) := by omega
    have tk : ((spareL ds).map dotD).take (many - ds.length) = ((spareL ds).take (many - ds.length)).map dotD := by rw [List.map_take]
    generalize (spareL ds).take (many - ds.length) = M at m1 m2 tk
    have ad : addS (.lst .bor (ds.map dotD)) (.lst .own (M.map dotD)) = some (.lst .own ((ds ++ M).map dotD)) := by
      have sz := sizeLine_val
      have : ds.length + M.length ≤ sizeLine := by
        rw [List.length_append] at m2
        omega
      simp [addS, borL_dots, this]
    generalize ds ++ M = N at m1 m2 ad
    have sl : evE p.gs cal (.slc (.v .bo 4) .abs_ (.bin .sub (.v .bo 6) (.bi .len (.cons (.v .bo 7) .nil)))) (crE (some bag) (some (.int lo)) (some (.int hi)) x3 (some (.lst .own ((spareL ds).map dotD))) (some (.int kind)) (some (.int many)) ds (some (.int far)) (some (dotD st)) (some (dotD off)) x11 y12) =
        some (.lst .own (M.map dotD), (crE (some bag) (some (.int lo)) (some (.int hi)) x3 (some (.lst .own ((spareL ds).map dotD))) (some (.int kind)) (some (.int many)) ds (some (.int far)) (some (dotD st)) (some (dotD off)) x11 y12)) := by
      simp [evE, evA, crE, look, look_dots, bor, borL_dots, isP, biS, lenS, binS, bndOf, slcS, sub, cut_take_n, tk]
    have v7 : evE p.gs cal (.v .bo 7) (crE (some bag) (some (.int lo)) (some (.int hi)) x3 (some (.lst .own ((spareL ds).map dotD))) (some (.int kind)) (some (.int many)) ds (some (.int far)) (some (dotD st)) (some (dotD off)) x11 y12) = some (.lst .bor (ds.map dotD), (crE (some bag) (some (.int lo)) (some (.int hi)) x3 (some (.lst .own ((spareL ds).map dotD))) (some (.int kind)) (some (.int many)) ds (some (.int far)) (some (dotD st)) (some (dotD off)) x11 y12)) := by simp [evE, crE, look, look_dots]
    have bn : evE p.gs cal (.bin .add (.v .bo 7) (.slc (.v .bo 4) .abs_ (.bin .sub (.v .bo 6) (.bi .len (.cons (.v .bo 7) .nil))))) (crE (some bag) (some (.int lo)) (some (.int hi)) x3 (some (.lst .own ((spareL ds).map dotD))) (some (.int kind)) (some (.int many)) ds (some (.int far)) (some (dotD st)) (some (dotD off)) x11 y12) = some (.lst .own (N.map dotD), (crE (some bag) (some (.int lo)) (some (.int hi)) x3 (some (.lst .own ((spareL ds).map dotD))) (some (.int kind)) (some (.int many)) ds (some (.int far)) (some (dotD st)) (some (dotD off)) x11 y12)) := by
      rw [evE, v7]
      simp only [sl]
      simp [isP, binS, ad]
    have rt : evE p.gs cal (.bi .tuple (.cons (.bin .add (.v .bo 7) (.slc (.v .bo 4) .abs_ (.bin .sub (.v .bo 6) (.bi .len (.cons (.v .bo 7) .nil))))) .nil)) (crE (some bag) (some (.int lo)) (some (.int hi)) x3 (some (.lst .own ((spareL ds).map dotD))) (some (.int kind)) (some (.int many)) ds (some (.int far)) (some (dotD st)) (some (dotD off)) x11 y12) =
        some (crowdD N, (crE (some bag) (some (.int lo)) (some (.int hi)) x3 (some (.lst .own ((spareL ds).map dotD))) (some (.int kind)) (some (.int many)) ds (some (.int far)) (some (dotD st)) (some (dotD off)) x11 y12)) := by
      rw [evE, evA, bn]
      simp [evA, bor, borL_dots, biS, tupS, crowdD]
    exact ⟨_, bag, fin _ bag _ (by rw [tl, ev_cons h1, ev_cons h2, ev_cons h3, ev_cons h4, ev_cons h5, ev_cons h6, ev_cons_rt (ev_ret rt (frz_crowd _).2.1)]) (by simp [crE]), hb6, m1, by omega, by omega⟩
end Pur

namespace Pur
open PySem
/-! comprehensions that leave all as it was -/
theorem set_same {ρ : En} {p : Nat} {v : Option D} (h : ρ[p]? = some v) : ρ.set p v = ρ := by
  apply List.ext_getElem?
  intro i
  by_cases e : p = i
  · subst e
    rw [List.getElem?_set_self (List.getElem?_eq_some_iff.mp h).1, h]
  · rw [List.getElem?_set_ne e]
theorem ev_filter {gl : List (Str × D)} {cal : Cal} {elt it c : E} {p : Nat} {ρ : En} {items : List D} {kp : D} {k : D → Bool} {g : D → D} (hit : evI gl cal it ρ = some (items, kp, ρ)) (hk : (bor kp && !(isP elt && isP c)) = false) (hl : items.length ≤ 10000000)
    (hp : p < ρ.length) (hf : ∀ d, ρ[p]? = some (some d) → frz d = true) (hx : ∀ x ∈ items, bor x = false) (hc : ∀ x ∈ items, evE gl cal c (ρ.set p (some x)) = some (.bl (k x), ρ.set p (some x)))
    (he : ∀ x ∈ items, k x = true → evE gl cal elt (ρ.set p (some x)) = some (g x, ρ.set p (some x)) ∧ bor (g x) = false) : evE gl cal (.lc elt (.nm p) it c [p]) ρ = some (.lst .own ((items.filter k).map g), ρ) := by
  have hL : lcL (lcF gl cal elt (.nm p) c [p]) items (wipeD ρ [p]) = some (items.flatMap (fun x => if k x then [g x] else []), ρ.set p none) := by
    refine lcL_flat fun x hxm => ?_
    have bt : bindT (.nm p) x (ρ.set p none) = some (ρ.set p (some x)) := by simp [bindT, hp, hx x hxm]
    have c1 := hc x hxm
    cases hkx : k x with
    | true =>
      rw [hkx] at c1
      obtain ⟨e1, e2⟩ := he x hxm hkx
      simp only [wipeD, lcF, bt, c1, e1, e2]
      simp
    | false =>
      rw [hkx] at c1
      simp only [wipeD, lcF, bt, c1]
      simp
  have lc := ev_lc (gl := gl) (cal := cal) (t := .nm p) (vs := [p]) hit hk hl (by simp [tgs]) hL
  rw [lc]
  have e1 : items.flatMap (fun x => if k x then [g x] else []) = (items.filter k).map g := by
    clear hL lc hit hk hl hx hc he
    induction items with
    | nil => rfl
    | cons x xs ih => cases hkx : k x <;> simp [List.flatMap_cons, List.filter_cons, hkx, ih]
  have e2 : restore ρ [p] (ρ.set p none) = ρ := by
    unfold restore
    cases hr : ρ[p]? with
    | none => exact absurd (List.getElem?_eq_none_iff.mp hr) (by omega)
    | some o =>
      cases o with
      | none => simp only [restore]; exact set_same hr
      | some d => simp only [hf d hr, if_true, restore, List.set_set]; exact set_same hr
  rw [e1, e2]
theorem ev_map {gl : List (Str × D)} {cal : Cal} {elt it : E} {p : Nat} {ρ : En} {items : List D} {kp : D} {g : D → D} (hit : evI gl cal it ρ = some (items, kp, ρ)) (hk : (bor kp && !isP elt) = false) (hl : items.length ≤ 10000000)
    (hp : p < ρ.length) (hf : ∀ d, ρ[p]? = some (some d) → frz d = true) (hx : ∀ x ∈ items, bor x = false)
    (he : ∀ x ∈ items, evE gl cal elt (ρ.set p (some x)) = some (g x, ρ.set p (some x)) ∧ bor (g x) = false) : evE gl cal (.lc elt (.nm p) it (.bl true) [p]) ρ = some (.lst .own (items.map g), ρ) := by
  have := ev_filter (c := .bl true) (k := fun _ => true) hit (by simpa [isP] using hk) hl hp hf hx (fun x _ => by rw [evE]) (fun x h _ => he x h)
  rw [List.filter_eq_self.mpr (fun _ _ => rfl)] at this
  exact this
theorem ev_map2 {gl : List (Str × D)} {cal : Cal} {elt it : E} {p p' : Nat} {ρ : En} {ds : List (Int × Int)} {kp : D} {g : Int × Int → D} (hit : evI gl cal it ρ = some (ds.map dotD, kp, ρ)) (hk : (bor kp && !isP elt) = false) (hl : ds.length ≤ 10000000)
    (hp : ρ[p]? = some none) (hp' : ρ[p']? = some none) (hn : p ≠ p')
    (he : ∀ q ∈ ds, evE gl cal elt ((ρ.set p (some (.int q.1))).set p' (some (.int q.2))) = some (g q, (ρ.set p (some (.int q.1))).set p' (some (.int q.2))) ∧ bor (g q) = false) :
    evE gl cal (.lc elt (.tp (.cons (.nm p) (.cons (.nm p') .nil))) it (.bl true) [p, p']) ρ = some (.lst .own (ds.map g), ρ) := by
  have w : wipeD ρ [p, p'] = ρ := by
    simp only [wipeD]
    rw [set_same hp', set_same hp]
  have l1 := (List.getElem?_eq_some_iff.mp hp).1
  have l2 := (List.getElem?_eq_some_iff.mp hp').1
  have hL : lcL (lcF gl cal elt (.tp (.cons (.nm p) (.cons (.nm p') .nil))) (.bl true) [p, p']) (ds.map dotD) (wipeD ρ [p, p']) = some ((ds.map dotD).flatMap (fun x => match x with | .tup [.int a, .int b] => [g (a, b)] | _ => []), ρ) := by
    rw [w]
    refine lcL_flat fun x hx => ?_
    obtain ⟨q, hq, rfl⟩ := List.mem_map.mp hx
    obtain ⟨e1, e2⟩ := he q hq
    have bt : bindT (.tp (.cons (.nm p) (.cons (.nm p') .nil))) (dotD q) ρ = some ((ρ.set p (some (.int q.1))).set p' (some (.int q.2))) := by simp [bindT, bindTs, dotD, bor, l1, l2]
    have w2 : wipeD ((ρ.set p (some (.int q.1))).set p' (some (.int q.2))) [p, p'] = ρ := by
      simp only [wipeD, List.set_set]
      rw [List.set_comm _ _ hn, List.set_set, List.set_comm _ _ (Ne.symm hn), set_same hp, set_same hp']
    exact (lcF_true bt e1 e2).trans (by rw [w2]; rfl)
  have lc := ev_lc (gl := gl) (cal := cal) (t := .tp (.cons (.nm p) (.cons (.nm p') .nil))) (vs := [p, p']) (c := .bl true) hit (by simpa [isP] using hk) (by simpa using hl) (by simp [tgs]) hL
  rw [lc]
  have e1 : (ds.map dotD).flatMap (fun x => match x with | .tup [.int a, .int b] => [g (a, b)] | _ => []) = ds.map g := by
    clear hL lc hit hl he
    induction ds with
    | nil => rfl
    | cons q ds ih => simp only [List.map_cons, List.flatMap_cons, ih]; rfl
  have e2 : restore ρ [p, p'] ρ = ρ := by simp [restore, hp, hp']
  rw [e1, e2]
theorem intsOf_ints : ∀ ns : List Int, intsOf (ns.map .int) = some ns
  | [] => rfl
  | n :: ns => by simp [intsOf, intsOf_ints ns]
def co (ax : Int) (ds : List (Int × Int)) (j : Int) : Int := if ax = 0 then (atQ ds j).1 else (atQ ds j).2
theorem at_ax {ax : Int} (h : ax = 0 ∨ ax = 1) (ds : List (Int × Int)) (j : Int) : idxS (dotD (atQ ds j)) (.int ax) = some (.int (co ax ds j)) := by
  rcases h with rfl | rfl
  · exact (at_dot _).1
  · exact (at_dot _).2
theorem look_crowd (ds : List (Int × Int)) : look (crowdD ds) = crowdD ds := (frz_crowd ds).2.2.1
theorem bor_crowd (ds : List (Int × Int)) : bor (crowdD ds) = false := (frz_crowd ds).2.1
theorem look_lot (l : List Int) : look (lotD l) = lotD l := (still1 _ (frz_lot l)).2.1
theorem bor_lot (l : List Int) : bor (lotD l) = false := (still1 _ (frz_lot l)).2.2
theorem it_lot {gl : List (Str × D)} {cal : Cal} {b : Nat} {ρ : En} {l : List Int} (hb : ρ[b]? = some (some (lotD l))) : evI gl cal (.v .bo b) ρ = some (l.map .int, lotD l, ρ) := by
  have e : itOf (.v .bo b) (lotD l) = some (l.map .int, lotD l) := by simp [itOf, lotD, seqOf, frz_ints]
  unfold evI
  rw [evE]
  simp only [hb, look_lot, e]
/-- the places' coordinates -/
theorem coords_lc {gl : List (Str × D)} {cal : Cal} {c b a p : Nat} {ρ : En} {ds : List (Int × Int)} {l : List Int} {ax : Int} (hc : ρ[c]? = some (some (crowdD ds))) (hb : ρ[b]? = some (some (lotD l))) (ha : ρ[a]? = some (some (.int ax))) (hp : ρ[p]? = some none) (hax : ax = 0 ∨ ax = 1) (hl : ∀ j ∈ l, 0 ≤ j ∧ j < ds.length) (hn : l.length ≤ 1000) :
    evE gl cal (.lc (.idx (.idx (.v .bo c) (.v .bo p)) (.v .bo a)) (.nm p) (.v .bo b) (.bl true) [p]) ρ = some (.lst .own ((l.map (co ax ds)).map .int), ρ) := by
  have ne : ∀ {i : Nat} {d : D}, ρ[i]? = some (some d) → p ≠ i := fun h e => by subst e; rw [hp] at h; cases h
  have pl := (List.getElem?_eq_some_iff.mp hp).1
  have := ev_map (gl := gl) (cal := cal) (elt := .idx (.idx (.v .bo c) (.v .bo p)) (.v .bo a)) (it := .v .bo b) (p := p) (ρ := ρ) (items := l.map .int) (kp := lotD l) (g := fun x => match x with | .int j => .int (co ax ds j) | _ => .non)
    (it_lot hb) (by simp [bor_lot]) (by simp; omega) pl (fun d h => by rw [hp] at h; cases h) (fun x hx => by obtain ⟨j, _, rfl⟩ := List.mem_map.mp hx; rfl) (fun x hx => by
      obtain ⟨j, hj, rfl⟩ := List.mem_map.mp hx
      obtain ⟨j0, j1⟩ := hl j hj
      refine ⟨?_, rfl⟩
      have g1 : (ρ.set p (some (.int j)))[c]? = some (some (crowdD ds)) := by rw [List.getElem?_set_ne (ne hc)]; exact hc
      have g2 : (ρ.set p (some (.int j)))[a]? = some (some (.int ax)) := by rw [List.getElem?_set_ne (ne ha)]; exact ha
      have g3 : (ρ.set p (some (.int j)))[p]? = some (some (.int j)) := List.getElem?_set_self pl
      simp [evE, g1, g2, g3, look_crowd, look, bor_crowd, bor, idx_crowd ds j0 j1, bor_dot, at_ax hax])
  rw [this, List.map_map, List.map_map]
  rfl
end Pur

namespace Pur
open PySem
/-! has_third, _law_thirds -/
def LotIn (ds : List (Int × Int)) (l : List Int) : Prop := (∀ j ∈ l, 0 ≤ j ∧ j < ds.length) ∧ l.length ≤ 1000
theorem lot_in {ds : List (Int × Int)} {l : List Int} (h : l ∈ lotsI ds.length 3) : LotIn ds l := by
  obtain ⟨i, j, k, rfl, h0, h1, h2, h3⟩ := of_lots3 h
  refine ⟨fun x hx => ?_, by simp⟩
  simp only [List.mem_cons, List.not_mem_nil, or_false] at hx
  rcases hx with rfl | rfl | rfl <;> omega
def sumA (ax : Int) (ds : List (Int × Int)) (l : List Int) : Int := (l.map (co ax ds)).sum
theorem sumA_0 (ds : List (Int × Int)) (l : List Int) : sumA 0 ds l = sum0 ds l := rfl
theorem sumA_1 (ds : List (Int × Int)) (l : List Int) : sumA 1 ds l = sum1 ds l := rfl
theorem ev_sum {gl : List (Str × D)} {cal : Cal} {e : E} {ρ ρ1 : En} {ns : List Int} (h : evE gl cal e ρ = some (.lst .own (ns.map .int), ρ1)) : evE gl cal (.bi .sum (.cons e .nil)) ρ = some (.int ns.sum, ρ1) := by
  rw [evE, evA, h]
  simp [evA, isP, biS, sumS, intsOf_ints]
theorem has_run {p : Pg} {cal : Cal} {W : Nat} {ds : List (Int × Int)} {l : List Int} (h : LotIn ds l) : runF p W cal ⟨"has_third", 2, n_has_third, b_has_third⟩ [crowdD ds, lotD l] = some (.bl (isThird ds l), [crowdD ds, lotD l]) := by
  have elt : ∀ ax : Int, ax = 0 ∨ ax = 1 → evE p.gs cal (.cmp .eq (.bin .mod (.bi .sum (.cons (.lc (.idx (.idx (.v .bo 0) (.v .bo 3)) (.v .bo 2)) (.nm 3) (.v .bo 1) (.bl true) [3]) .nil)) (.int 3)) (.int 0)) [some (crowdD ds), some (lotD l), some (.int ax), none] = some (.bl (decide ((sumA ax ds l).fmod 3 = 0)), [some (crowdD ds), some (lotD l), some (.int ax), none]) := by
    intro ax hax
    have c := coords_lc (gl := p.gs) (cal := cal) (c := 0) (b := 1) (a := 2) (p := 3) (ρ := [some (crowdD ds), some (lotD l), some (.int ax), none]) (ds := ds) (l := l) (ax := ax) rfl rfl rfl rfl hax h.1 h.2
    have s := ev_sum c
    rw [evE, evE, s]
    simp [evE, bor, binS, cmp_eq_int, sumA]
    exact decide_eq_decide.mpr Iff.rfl
  have lc := ev_map (gl := p.gs) (cal := cal) (elt := .cmp .eq (.bin .mod (.bi .sum (.cons (.lc (.idx (.idx (.v .bo 0) (.v .bo 3)) (.v .bo 2)) (.nm 3) (.v .bo 1) (.bl true) [3]) .nil)) (.int 3)) (.int 0)) (it := .tup (.cons (.int 0) (.cons (.int 1) .nil))) (p := 2) (ρ := [some (crowdD ds), some (lotD l), none, none]) (items := [.int 0, .int 1]) (kp := .tup [.int 0, .int 1]) (g := fun x => match x with | .int ax => .bl (decide ((sumA ax ds l).fmod 3 = 0)) | _ => .non)
    (by simp [evI, evE, evA, bor, itOf, seqOf, frzL, frz]) (by simp [bor, borL]) (by simp) (by simp) (fun d h => by simp at h) (fun x hx => by simp at hx; rcases hx with rfl | rfl <;> rfl) (fun x hx => by
      simp only [List.mem_cons, List.not_mem_nil, or_false] at hx
      rcases hx with rfl | rfl
      · exact ⟨elt 0 (.inl rfl), rfl⟩
      · exact ⟨elt 1 (.inr rfl), rfl⟩)
  have all : evE p.gs cal (.bi .all (.cons (.lc (.cmp .eq (.bin .mod (.bi .sum (.cons (.lc (.idx (.idx (.v .bo 0) (.v .bo 3)) (.v .bo 2)) (.nm 3) (.v .bo 1) (.bl true) [3]) .nil)) (.int 3)) (.int 0)) (.nm 2) (.tup (.cons (.int 0) (.cons (.int 1) .nil))) (.bl true) [2]) .nil)) [some (crowdD ds), some (lotD l), none, none] = some (.bl (isThird ds l), [some (crowdD ds), some (lotD l), none, none]) := by
    rw [evE, evA, lc]
    simp [evA, isP, biS, allS, blsOf, isThird, sumA_0, sumA_1]
    rw [Bool.eq_iff_iff]
    simp
    exact ⟨fun h => ⟨of_decide_eq_true h.1, of_decide_eq_true h.2⟩, fun h => ⟨decide_eq_true h.1, decide_eq_true h.2⟩⟩
  have body : evS p.gs cal W b_has_third [some (crowdD ds), some (lotD l), none, none] = some (.rt (.bl (isThird ds l)) [some (crowdD ds), some (lotD l), none, none]) := by
    show evS p.gs cal W (.cons (.ret _) .nil) _ = _
    rw [ev_cons_rt (ev_ret all rfl)]
  unfold runF
  simp [n_has_third, bor_crowd, bor_lot, borL, body, finL, frz_crowd, frz_lot]
theorem eqv_two (a b : Int) : eqD (.lst .bor [.int a, .int b]) (.lst .own [.int 0, .int 0]) = (decide (a = 0) && decide (b = 0)) := by
  simp [eqD, py, pyL, PyData.eqv, PyData.eqvAll]
  cases h1 : (a == 0) <;> cases h2 : (b == 0) <;> simp_all
def thE (ds : List (Int × Int)) (found : List (List Int)) (x2 x3 : Option D) : En := [some (crowdD ds), some (.lst .own (found.map lotD)), x2, x3, none, none]
def thBd : S := .cons (.asg (.nm 3) (.lc (.bin .mod (.bi .int (.cons (.bi .sum (.cons (.lc (.idx (.idx (.v .bo 0) (.v .bo 5)) (.v .bo 4)) (.nm 5) (.v .bo 2) (.bl true) [5]) .nil)) .nil)) (.int 3)) (.nm 4) (.tup (.cons (.int 0) (.cons (.int 1) .nil))) (.bl true) [4])) (.cons (.ext 1 (.ife (.cmp .eq (.v .bo 3) (.lst (.cons (.int 0) (.cons (.int 0) .nil)))) (.lst (.cons (.v .bo 2) .nil)) (.lst .nil))) .nil)
theorem th_step {p : Pg} {cal : Cal} {W : Nat} {ds : List (Int × Int)} {found : List (List Int)} {l : List Int} {x3 : Option D} (h : LotIn ds l) (hf : found.length ≤ 100000) :
    ∃ x3', evS p.gs cal W thBd (thE ds found (some (lotD l)) x3) = some (.nx (thE ds (found ++ if isThird ds l then [l] else []) (some (lotD l)) x3')) := by
  let ρ : En := thE ds found (some (lotD l)) x3
  have elt : ∀ ax : Int, ax = 0 ∨ ax = 1 → evE p.gs cal (.bin .mod (.bi .int (.cons (.bi .sum (.cons (.lc (.idx (.idx (.v .bo 0) (.v .bo 5)) (.v .bo 4)) (.nm 5) (.v .bo 2) (.bl true) [5]) .nil)) .nil)) (.int 3)) (ρ.set 4 (some (.int ax))) = some (.int ((sumA ax ds l).fmod 3), ρ.set 4 (some (.int ax))) := by
    intro ax hax
    have c := coords_lc (gl := p.gs) (cal := cal) (c := 0) (b := 2) (a := 4) (p := 5) (ρ := ρ.set 4 (some (.int ax))) (ds := ds) (l := l) (ax := ax) (by simp [ρ, thE]) (by simp [ρ, thE]) (by simp [ρ, thE]) (by simp [ρ, thE]) hax h.1 h.2
    have s := ev_sum c
    rw [evE, evE, evA, s]
    simp [evE, evA, bor, biS, intS, binS, sumA]
  have lc := ev_map (gl := p.gs) (cal := cal) (elt := .bin .mod (.bi .int (.cons (.bi .sum (.cons (.lc (.idx (.idx (.v .bo 0) (.v .bo 5)) (.v .bo 4)) (.nm 5) (.v .bo 2) (.bl true) [5]) .nil)) .nil)) (.int 3)) (it := .tup (.cons (.int 0) (.cons (.int 1) .nil))) (p := 4) (ρ := ρ) (items := [.int 0, .int 1]) (kp := .tup [.int 0, .int 1]) (g := fun x => match x with | .int ax => .int ((sumA ax ds l).fmod 3) | _ => .non)
    (by simp [evI, evE, evA, bor, itOf, seqOf, frzL, frz]) (by simp [bor, borL]) (by simp) (by simp [ρ, thE]) (fun d h => by simp [ρ, thE] at h) (fun x hx => by simp at hx; rcases hx with rfl | rfl <;> rfl) (fun x hx => by
      simp only [List.mem_cons, List.not_mem_nil, or_false] at hx
      rcases hx with rfl | rfl
      · exact ⟨elt 0 (.inl rfl), rfl⟩
      · exact ⟨elt 1 (.inr rfl), rfl⟩)
  simp only [ρ, List.map_cons, List.map_nil] at lc
  let y3 : D := .lst .own [.int ((sumA 0 ds l).fmod 3), .int ((sumA 1 ds l).fmod 3)]
  have h1 : evS p.gs cal W (.asg (.nm 3) (.lc (.bin .mod (.bi .int (.cons (.bi .sum (.cons (.lc (.idx (.idx (.v .bo 0) (.v .bo 5)) (.v .bo 4)) (.nm 5) (.v .bo 2) (.bl true) [5]) .nil)) .nil)) (.int 3)) (.nm 4) (.tup (.cons (.int 0) (.cons (.int 1) .nil))) (.bl true) [4])) (thE ds found (some (lotD l)) x3) = some (.nx (thE ds found (some (lotD l)) (some y3))) := by
    simp only [evS, lc]
    simp [bindT, bor, borL, thE, y3]
  refine ⟨some y3, ?_⟩
  have sz := sizeLine_val
  have c : evE p.gs cal (.cmp .eq (.v .bo 3) (.lst (.cons (.int 0) (.cons (.int 0) .nil)))) (thE ds found (some (lotD l)) (some y3)) = some (.bl (isThird ds l), thE ds found (some (lotD l)) (some y3)) := by
    simp [evE, evA, thE, y3, look, lookL, bor, borL, isP, cmpS, eqS, lay, layL, eqv_two, isThird, sumA_0, sumA_1]
  show evS p.gs cal W (.cons _ (.cons _ .nil)) _ = _
  rw [ev_cons h1]
  cases ht : isThird ds l with
  | true =>
    rw [ht] at c
    have e : evE p.gs cal (.ife (.cmp .eq (.v .bo 3) (.lst (.cons (.int 0) (.cons (.int 0) .nil)))) (.lst (.cons (.v .bo 2) .nil)) (.lst .nil)) (thE ds found (some (lotD l)) (some y3)) = some (.lst .own [lotD l], thE ds found (some (lotD l)) (some y3)) := by
      rw [evE, c]
      simp [evE, evA, thE, look_lot, bor_lot, borL]
    have sz2 : found.length + 1 ≤ sizeLine := by omega
    have h2 : evS p.gs cal W (.ext 1 (.ife (.cmp .eq (.v .bo 3) (.lst (.cons (.int 0) (.cons (.int 0) .nil)))) (.lst (.cons (.v .bo 2) .nil)) (.lst .nil))) (thE ds found (some (lotD l)) (some y3)) = some (.nx (thE ds (found ++ [l]) (some (lotD l)) (some y3))) := by
      rw [evS, e]
      simp [thE, borL, bor_lot, sz2]
    rw [ev_cons h2]
    rfl
  | false =>
    rw [ht] at c
    have e : evE p.gs cal (.ife (.cmp .eq (.v .bo 3) (.lst (.cons (.int 0) (.cons (.int 0) .nil)))) (.lst (.cons (.v .bo 2) .nil)) (.lst .nil)) (thE ds found (some (lotD l)) (some y3)) = some (.lst .own [], thE ds found (some (lotD l)) (some y3)) := by
      rw [evE, c]
      simp [evE, evA, borL]
    have sz2 : found.length ≤ sizeLine := by omega
    have h2 : evS p.gs cal W (.ext 1 (.ife (.cmp .eq (.v .bo 3) (.lst (.cons (.int 0) (.cons (.int 0) .nil)))) (.lst (.cons (.v .bo 2) .nil)) (.lst .nil))) (thE ds found (some (lotD l)) (some y3)) = some (.nx (thE ds (found ++ []) (some (lotD l)) (some y3))) := by
      rw [evS, e]
      simp [thE, borL, sz2]
    rw [ev_cons h2]
    rfl
theorem thirds_run {p : Pg} {cal : Cal} {W kl : Nat} (hl : LotsS cal kl) {ds : List (Int × Int)} (hn : ds.length ≤ 30) : runF p W cal ⟨"_law_thirds", 1, n_law_thirds, b_law_thirds kl⟩ [crowdD ds] = some (.lst .own ((thirdsI ds).map lotD), [crowdD ds]) := by
  obtain ⟨lt1, lt2⟩ := lots_len (many := (ds.length : Int)) (by omega) (n := 3) (by omega)
  have ltn : (lotsI ds.length 3).length ≤ 100000 := by
    refine Nat.le_trans lt2 ?_
    have := Nat.pow_le_pow_left (show (ds.length : Int).toNat ≤ 30 by omega) 3
    omega
  have h1 : evS p.gs cal W (.asg (.nm 1) (.lst .nil)) [some (crowdD ds), none, none, none, none, none] = some (.nx (thE ds [] none none)) := by
    simp [evS, evE, evA, bindT, bor, borL, thE]
  have lots := hl ds.length 3 (by omega) (by omega) (by omega)
  have lots' : cal kl [.int ds.length, .int 3] = some (.lst .own ((lotsI ds.length 3).map lotD), [.int ds.length, .int 3]) := lots
  have fl := frz_lots (lotsI ds.length 3)
  have bl := (stillL _ fl).2.2
  have len : evE p.gs cal (.bi .len (.cons (.v .bo 0) .nil)) (thE ds [] none none) = some (.int ds.length, thE ds [] none none) := by
    simp [evE, evA, thE, look_crowd, bor_crowd, isP, biS]
    simp [crowdD, lenS]
  have it : evI p.gs cal (.fc kl (.cons (.bi .len (.cons (.v .bo 0) .nil)) (.cons (.int 3) .nil))) (thE ds [] none none) = some ((lotsI ds.length 3).map lotD, .lst .own ((lotsI ds.length 3).map lotD), thE ds [] none none) := by
    have hL : lendOf (.bi .len (.cons (.v .bo 0) .nil)) = none := rfl
    unfold evI
    rw [evE, evF]
    simp only [hL, len]
    simp [evF, evE, lendOf, lends, bor, fillL, giveL, lots', bl, itOf, seqOf, fl]
  let I : List D → En → Prop := fun items ρ => ∃ (rest done : List (List Int)) (x2 x3 : Option D), items = rest.map lotD ∧ done ++ rest = lotsI ds.length 3 ∧ ρ = thE ds (done.filter (isThird ds)) x2 x3
  obtain ⟨ρ', e, rest, done, x2, x3, q1, q2, rfl⟩ := forL_inv (wp := []) (t := .nm 2) (f := evS p.gs cal W thBd) I (items := (lotsI ds.length 3).map lotD) (ρ := thE ds [] none none)
    ⟨lotsI ds.length 3, [], none, none, rfl, rfl, rfl⟩ (by
      rintro x xs ρ ⟨rest, done, x2, x3, q1, q2, rfl⟩
      cases rest with
      | nil => cases q1
      | cons l rest =>
        simp only [List.map_cons, List.cons.injEq] at q1
        obtain ⟨rfl, rfl⟩ := q1
        have hl := lot_in (ds := ds) (l := l) (by rw [← q2]; simp)
        have hd : (done.filter (isThird ds)).length ≤ 100000 := by
          have a := List.length_filter_le (isThird ds) done
          have b := congrArg List.length q2
          simp at b
          omega
        obtain ⟨x3', st⟩ := th_step (p := p) (cal := cal) (W := W) (x3 := x3) hl hd
        refine ⟨_, _, ?_, .inl st, rest, done ++ [l], some (lotD l), x3', rfl, by simp [q2], ?_⟩
        · simp [bindT, thE, bor_lot]
        · simp only [wipeD, List.filter_append, List.filter_cons, List.filter_nil])
  have er : rest = [] := by cases rest with
    | nil => rfl
    | cons _ _ => cases q1
  subst er
  rw [List.append_nil] at q2
  subst q2
  have h2 := (ev_for (gl := p.gs) (cal := cal) (W := W) (t := .nm 2) (b := thBd) (wp := []) it (by simp [bor, bl])).trans e
  have bt : borL ((thirdsI ds).map lotD) = false := (stillL _ (frz_lots _)).2.2
  have body : evS p.gs cal W (b_law_thirds kl) [some (crowdD ds), none, none, none, none, none] = some (.rt (.lst .own ((thirdsI ds).map lotD)) [some (crowdD ds), none, x2, x3, none, none]) := by
    show evS p.gs cal W (.cons _ (.cons (.for_ (.nm 2) _ thBd []) (.cons _ .nil))) _ = _
    rw [ev_cons h1, ev_cons h2, ev_cons_rt (ev_ret (d := .lst .own ((thirdsI ds).map lotD)) (ρ1 := [some (crowdD ds), none, x2, x3, none, none]) (by simp [evE, thE, thirdsI]) (by simp [bor, bt]))]
  unfold runF
  simp [n_law_thirds, bor_crowd, borL, body, finL, frz_crowd]
end Pur

namespace Pur
open PySem
/-! _law_bare -/
def kinds4 : List (Int × Int) := [(0, 0), (0, 1), (1, 0), (1, 1)]
def baE (bag : D) (ks : List (Int × Int)) (x2 : Option D) (ds : List (Int × Int)) (x4 x5 x6 : Option D) : En := [some bag, some (.lst .own (ks.map dotD)), x2, some (.lst .own (ds.map dotD)), x4, x5, x6]
def baBd (kp ks kd : Nat) : S := .cons (.par 5 6 (.pop 1 (.fc kp (.cons (.lend 0) (.cons (.bi .len (.cons (.v .bo 1) .nil)) .nil)))) (.fc kd (.cons (.lend 0) (.cons (.fc ks (.cons (.lend 0) (.cons (.lst (.cons (.int 9) (.cons (.int 3000) .nil))) .nil))) .nil)))) (.cons (.asg (.nm 4) (.tup (.cons (.bin .add (.bin .mul (.int 3) (.idx (.v .bo 6) (.int 0))) (.idx (.v .bo 5) (.int 0))) (.cons (.bin .add (.bin .mul (.int 3) (.idx (.v .bo 6) (.int 1))) (.idx (.v .bo 5) (.int 1))) .nil)))) (.cons (.ext 3 (.ife (.cmp .notin (.v .bo 4) (.v .bo 3)) (.lst (.cons (.v .bo 4) .nil)) (.lst .nil))) .nil))
def Small1 (q : Int × Int) : Prop := 0 ≤ q.1 ∧ q.1 ≤ 1 ∧ 0 ≤ q.2 ∧ q.2 ≤ 1
theorem ba_step {p : Pg} {cal : Cal} {W kp ks kd : Nat} (hp : PickS cal kp) (hs : SomeS cal ks) (hd : DotS cal kd) {bag : D} {kn ds : List (Int × Int)} {x2 x4 x5 x6 : Option D} (hb : IsBag bag) (hk : ∀ q ∈ kn, Small1 q) (k1 : 1 ≤ kn.length) (k2 : kn.length ≤ 1000) (cr : Cr ds) (dl : ds.length ≤ 1000) :
    ∃ bag' kn' ds' x4' x5' x6', evS p.gs cal W (baBd kp ks kd) (baE bag kn x2 ds x4 x5 x6) = some (.nx (baE bag' kn' x2 ds' x4' x5' x6')) ∧ IsBag bag' ∧ (∀ q ∈ kn', Small1 q) ∧ kn'.length + 1 = kn.length ∧ Cr ds' ∧ ds'.length ≤ ds.length + 1 := by
  obtain ⟨r, b1, e1, r0, r1, hb1⟩ := hp bag kn.length hb (by omega) (by omega)
  obtain ⟨j, rfl⟩ := Int.eq_ofNat_of_zero_le r0
  have hj : j < kn.length := by omega
  obtain ⟨m, b2, t2, hm, e2, hb2⟩ := some_int hs (is := [9, 3000]) hb1 (by simp) (by simp)
  have m0 : 0 ≤ m ∧ m ≤ 3000 := by simp at hm; omega
  obtain ⟨q, b3, e3, hb3, q1, q2, q3, q4⟩ := hd b2 m hb2 m0.1 (by omega)
  have f0 := bag_frz hb
  have f1 := bag_frz hb1
  have f2 := bag_frz hb2
  have f3 := bag_frz hb3
  have hz : kn[j] ∈ kn := List.getElem_mem hj
  have sm := hk _ hz
  have pk : evE p.gs cal (.fc kp (.cons (.lend 0) (.cons (.bi .len (.cons (.v .bo 1) .nil)) .nil))) (baE bag kn x2 ds x4 x5 x6) = some (.int (j : Nat), baE b1 kn x2 ds x4 x5 x6) := by
    have := ev_draw (gl := p.gs) (k := kp) (b0 := bag) (e := .bi .len (.cons (.v .bo 1) .nil)) (d := .int kn.length) (ρ := baE bag kn x2 ds x4 x5 x6) (ρ1 := baE bag kn x2 ds x4 x5 x6) (by simp [baE]) (by simp [evE, evA, baE, look, look_dots, bor, borL_dots, isP, biS, lenS]) rfl (by simp [baE]) hb e1 hb1 rfl rfl
    rw [this]
    simp [baE]
  have pop := ev_pop (gl := p.gs) (cal := cal) (i := 1) (ρ := baE bag kn x2 ds x4 x5 x6) (xs0 := kn.map dotD) (xs := kn.map dotD) (x := dotD kn[j]) (by simp [baE]) pk (by simp [baE]) (by simp [hj]) (by omega)
  have pop' : evE p.gs cal (.pop 1 (.fc kp (.cons (.lend 0) (.cons (.bi .len (.cons (.v .bo 1) .nil)) .nil)))) (baE bag kn x2 ds x4 x5 x6) = some (dotD kn[j], baE b1 (kn.eraseIdx j) x2 ds x4 x5 x6) := by
    rw [pop]
    simp [baE, map_erase]
  have sm' : evE p.gs cal (.fc ks (.cons (.lend 0) (.cons (.lst (.cons (.int 9) (.cons (.int 3000) .nil))) .nil))) (baE b1 (kn.eraseIdx j) x2 ds x4 x5 x6) = some (.int m, baE b2 (kn.eraseIdx j) x2 ds x4 x5 x6) := by
    have := ev_draw (gl := p.gs) (k := ks) (b0 := b1) (e := .lst (.cons (.int 9) (.cons (.int 3000) .nil))) (d := .lst .own (([9, 3000] : List Int).map .int)) (ρ := baE b1 (kn.eraseIdx j) x2 ds x4 x5 x6) (ρ1 := baE b1 (kn.eraseIdx j) x2 ds x4 x5 x6) (by simp [baE]) (by simp [evE, evA, bor, borL]) (by simp [bor, borL]) (by simp [baE]) hb1 e2 hb2 rfl rfl
    rw [this]
    simp [baE]
  have dt : evE p.gs cal (.fc kd (.cons (.lend 0) (.cons (.fc ks (.cons (.lend 0) (.cons (.lst (.cons (.int 9) (.cons (.int 3000) .nil))) .nil))) .nil))) (baE b1 (kn.eraseIdx j) x2 ds x4 x5 x6) = some (dotD q, baE b3 (kn.eraseIdx j) x2 ds x4 x5 x6) := by
    have := ev_draw (gl := p.gs) (k := kd) (b0 := b1) (ρ := baE b1 (kn.eraseIdx j) x2 ds x4 x5 x6) (by simp [baE]) sm' rfl (by simp [baE]) hb2 e3 hb3 (bor_dot q) rfl
    rw [this]
    simp [baE]
  have h1 : evS p.gs cal W (.par 5 6 (.pop 1 (.fc kp (.cons (.lend 0) (.cons (.bi .len (.cons (.v .bo 1) .nil)) .nil)))) (.fc kd (.cons (.lend 0) (.cons (.fc ks (.cons (.lend 0) (.cons (.lst (.cons (.int 9) (.cons (.int 3000) .nil))) .nil))) .nil)))) (baE bag kn x2 ds x4 x5 x6) =
      some (.nx (baE b3 (kn.eraseIdx j) x2 ds x4 (some (dotD kn[j])) (some (dotD q)))) := by
    simp only [evS, evA, pop', dt]
    simp [bor_dot, isP, putD, baE]
  let z : Int × Int := (3 * q.1 + (kn[j]).1, 3 * q.2 + (kn[j]).2)
  have mu : ∀ i : Int, mulOk 3 i = true := fun i => mulOk_l (by decide)
  have h2 : evS p.gs cal W (.asg (.nm 4) (.tup (.cons (.bin .add (.bin .mul (.int 3) (.idx (.v .bo 6) (.int 0))) (.idx (.v .bo 5) (.int 0))) (.cons (.bin .add (.bin .mul (.int 3) (.idx (.v .bo 6) (.int 1))) (.idx (.v .bo 5) (.int 1))) .nil)))) (baE b3 (kn.eraseIdx j) x2 ds x4 (some (dotD kn[j])) (some (dotD q))) =
      some (.nx (baE b3 (kn.eraseIdx j) x2 ds (some (dotD z)) (some (dotD kn[j])) (some (dotD q)))) := by
    have t : evE p.gs cal (.tup (.cons (.bin .add (.bin .mul (.int 3) (.idx (.v .bo 6) (.int 0))) (.idx (.v .bo 5) (.int 0))) (.cons (.bin .add (.bin .mul (.int 3) (.idx (.v .bo 6) (.int 1))) (.idx (.v .bo 5) (.int 1))) .nil))) (baE b3 (kn.eraseIdx j) x2 ds x4 (some (dotD kn[j])) (some (dotD q))) = some (dotD z, baE b3 (kn.eraseIdx j) x2 ds x4 (some (dotD kn[j])) (some (dotD q))) := by
      simp only [evE, evA]
      simp [baE, look_dot, bor_dot, at_dot, bor, isP, binS, addS, mu, z]
      rfl
    rw [evS, t]
    simp [bindT, bor_dot, baE]
  have fz : Far1 z := by
    obtain ⟨s1, s2, s3, s4⟩ := sm
    simp only [Far1, z]
    omega
  have sz := sizeLine_val
  have kl : (kn.eraseIdx j).length + 1 = kn.length := by rw [List.length_eraseIdx, if_pos hj]; omega
  have km : ∀ q ∈ kn.eraseIdx j, Small1 q := fun q hq => hk q (List.mem_of_mem_eraseIdx hq)
  have c : evE p.gs cal (.cmp .notin (.v .bo 4) (.v .bo 3)) (baE b3 (kn.eraseIdx j) x2 ds (some (dotD z)) (some (dotD kn[j])) (some (dotD q))) = some (.bl (decide (z ∉ ds)), baE b3 (kn.eraseIdx j) x2 ds (some (dotD z)) (some (dotD kn[j])) (some (dotD q))) := by
    simp only [evE]
    simp [baE, look_dot, look, look_dots, bor_dot, isP, notin_dot]
  by_cases nz : z ∈ ds
  · refine ⟨b3, kn.eraseIdx j, ds, some (dotD z), some (dotD kn[j]), some (dotD q), ?_, hb3, km, kl, cr, by omega⟩
    have c' : decide (z ∉ ds) = false := by simp [nz]
    rw [c'] at c
    have e : evE p.gs cal (.ife (.cmp .notin (.v .bo 4) (.v .bo 3)) (.lst (.cons (.v .bo 4) .nil)) (.lst .nil)) (baE b3 (kn.eraseIdx j) x2 ds (some (dotD z)) (some (dotD kn[j])) (some (dotD q))) = some (.lst .own [], baE b3 (kn.eraseIdx j) x2 ds (some (dotD z)) (some (dotD kn[j])) (some (dotD q))) := by
      rw [evE, c]
      simp [evE, evA, borL]
    have l1 : ds.length ≤ sizeLine := by omega
    have h3 : evS p.gs cal W (.ext 3 (.ife (.cmp .notin (.v .bo 4) (.v .bo 3)) (.lst (.cons (.v .bo 4) .nil)) (.lst .nil))) (baE b3 (kn.eraseIdx j) x2 ds (some (dotD z)) (some (dotD kn[j])) (some (dotD q))) = some (.nx (baE b3 (kn.eraseIdx j) x2 ds (some (dotD z)) (some (dotD kn[j])) (some (dotD q)))) := by
      rw [evS, e]
      simp [baE, borL, l1]
    show evS p.gs cal W (.cons _ (.cons _ (.cons _ .nil))) _ = _
    rw [ev_cons h1, ev_cons h2, ev_cons h3]
    rfl
  · refine ⟨b3, kn.eraseIdx j, ds ++ [z], some (dotD z), some (dotD kn[j]), some (dotD q), ?_, hb3, km, kl, ⟨?_, ?_⟩, by simp⟩
    · have c' : decide (z ∉ ds) = true := by simp [nz]
      rw [c'] at c
      have e : evE p.gs cal (.ife (.cmp .notin (.v .bo 4) (.v .bo 3)) (.lst (.cons (.v .bo 4) .nil)) (.lst .nil)) (baE b3 (kn.eraseIdx j) x2 ds (some (dotD z)) (some (dotD kn[j])) (some (dotD q))) = some (.lst .own [dotD z], baE b3 (kn.eraseIdx j) x2 ds (some (dotD z)) (some (dotD kn[j])) (some (dotD q))) := by
        rw [evE, c]
        simp [evE, evA, baE, look_dot, bor_dot, borL]
      have l1 : ds.length + 1 ≤ sizeLine := by omega
      have h3 : evS p.gs cal W (.ext 3 (.ife (.cmp .notin (.v .bo 4) (.v .bo 3)) (.lst (.cons (.v .bo 4) .nil)) (.lst .nil))) (baE b3 (kn.eraseIdx j) x2 ds (some (dotD z)) (some (dotD kn[j])) (some (dotD q))) = some (.nx (baE b3 (kn.eraseIdx j) x2 (ds ++ [z]) (some (dotD z)) (some (dotD kn[j])) (some (dotD q)))) := by
        rw [evS, e]
        simp [baE, borL, bor_dot, l1]
      show evS p.gs cal W (.cons _ (.cons _ (.cons _ .nil))) _ = _
      rw [ev_cons h1, ev_cons h2, ev_cons h3]
      rfl
    · rw [List.nodup_append]
      refine ⟨cr.nd, by simp, fun a ha b hb => ?_⟩
      simp only [List.mem_singleton] at hb
      subst hb
      exact fun e => nz (e ▸ ha)
    · intro w hw
      rcases List.mem_append.mp hw with hw | hw
      · exact cr.far w hw
      · simp only [List.mem_singleton] at hw
        subst hw
        exact fz
def BareS (cal : Cal) (k : Nat) : Prop := ∀ b : D, IsBag b → ∃ ds b', cal k [b] = some (crowdD ds, [b']) ∧ IsBag b' ∧ Cr ds ∧ 3 ≤ ds.length ∧ ds.length ≤ 8
theorem bare_run {p : Pg} {cal : Cal} {W kp ks kd : Nat} (hp : PickS cal kp) (hs : SomeS cal ks) (hd : DotS cal kd) {b : D} (hb : IsBag b) :
    ∃ ds b', runF p W cal ⟨"_law_bare", 1, n_law_bare, b_law_bare kp ks kd⟩ [b] = some (crowdD ds, [b']) ∧ IsBag b' ∧ Cr ds ∧ 3 ≤ ds.length ∧ ds.length ≤ 8 := by
  obtain ⟨r, b1, e1, r0, r1, hb1⟩ := hp b 6 hb (by omega) (by omega)
  obtain ⟨n, rfl⟩ := Int.eq_ofNat_of_zero_le r0
  have f0 := bag_frz hb
  have f1 := bag_frz hb1
  have h1 : evS p.gs cal W (.par 3 1 (.lst .nil) (.lst (.cons (.tup (.cons (.int 0) (.cons (.int 0) .nil))) (.cons (.tup (.cons (.int 0) (.cons (.int 1) .nil))) (.cons (.tup (.cons (.int 1) (.cons (.int 0) .nil))) (.cons (.tup (.cons (.int 1) (.cons (.int 1) .nil))) .nil)))))) [some b, none, none, none, none, none, none] =
      some (.nx (baE b kinds4 none [] none none none)) := by
    simp [evS, evE, evA, bor, borL, isP, putD, baE, kinds4, dotD]
  have h2 : evS p.gs cal W (.asg (.nm 1) (.bin .add (.v .bo 1) (.v .bo 1))) (baE b kinds4 none [] none none none) = some (.nx (baE b (kinds4 ++ kinds4) none [] none none none)) := by
    have sz := sizeLine_val
    have l8 : 8 ≤ sizeLine := by omega
    have bl := borL_dots kinds4
    simp [evS, evE, look, look_dots, isP, binS, addS, baE, bl, bindT, bor]
    rw [if_pos (by simp [kinds4]; omega)]
    have bl2 := borL_dots (kinds4 ++ kinds4)
    rw [List.map_append] at bl2
    simp [bor, bl2]
  let I : List D → En → Prop := fun items ρ => ∃ bag kn x2 ds x4 x5 x6, ρ = baE bag kn x2 ds x4 x5 x6 ∧ IsBag bag ∧ (∀ q ∈ kn, Small1 q) ∧ items.length ≤ kn.length ∧ kn.length ≤ 8 ∧ Cr ds ∧ ds.length + items.length ≤ 8 ∧ ∀ x ∈ items, bor x = false
  obtain ⟨ρ', e2, bag, kn, x2, ds, x4, x5, x6, rfl, hb4, _, _, _, cr, len, _⟩ := forL_inv (wp := []) (t := .nm 2) (f := evS p.gs cal W (baBd kp ks kd)) I (items := rangeD 0 (3 + n)) (ρ := baE b1 (kinds4 ++ kinds4) none [] none none none)
    ⟨b1, kinds4 ++ kinds4, none, [], none, none, none, rfl, hb1, by
      intro q hq
      simp only [kinds4, List.cons_append, List.nil_append, List.mem_cons, List.not_mem_nil, or_false] at hq
      rcases hq with rfl | rfl | rfl | rfl | rfl | rfl | rfl | rfl <;> (unfold Small1; decide), by simp [rangeD_len, kinds4]; omega, by simp [kinds4], ⟨List.nodup_nil, fun q h => nomatch h⟩, by simp [rangeD_len]; omega, fun x hx => by obtain ⟨k, _, rfl⟩ := rangeD_mem hx; rfl⟩ (by
      rintro x xs ρ ⟨bag, kn, x2, ds, x4, x5, x6, rfl, hb4, hk, k1, k2, cr, len, hx⟩
      simp only [List.length_cons] at k1 len
      obtain ⟨bag', kn', ds', x4', x5', x6', e, hb', hk', kl, cr', len'⟩ := ba_step (p := p) (cal := cal) (W := W) hp hs hd (x2 := some x) (x4 := x4) (x5 := x5) (x6 := x6) hb4 hk (by omega) (by omega) cr (by omega)
      exact ⟨_, _, by simp [bindT, baE, hx x List.mem_cons_self], .inl e, bag', kn', some x, ds', x4', x5', x6', rfl, hb', hk', by omega, by omega, cr', by omega, fun y hy => hx y (List.mem_cons_of_mem _ hy)⟩)
  have itl := ev_rngI (gl := p.gs) (cal := cal) (a := .bin .add (.int 3) (.fc kp (.cons (.lend 0) (.cons (.int 6) .nil)))) (n := 3 + n) (ρ := baE b (kinds4 ++ kinds4) none [] none none none) (ρ1 := baE b1 (kinds4 ++ kinds4) none [] none none none)
    (by simp [evE, evF, lendOf, lends, baE, bor, isP, fillL, giveL, f0, f1, e1, binS, addS]) (by omega)
  have h3 := (ev_for (gl := p.gs) (cal := cal) (W := W) (it := .rng (.bin .add (.int 3) (.fc kp (.cons (.lend 0) (.cons (.int 6) .nil))))) (t := .nm 2) (b := baBd kp ks kd) (wp := []) itl rfl).trans e2
  have as : asgs (b_law_bare kp ks kd) = [3, 1, 1, 2, 5, 6, 4] := rfl
  have f4 := bag_frz hb4
  have fin : ∀ (es : List (Int × Int)), evE p.gs cal (.ife (.cmp .gt (.bi .len (.cons (.v .bo 3) .nil)) (.int 2)) (.bi .tuple (.cons (.v .bo 3) .nil)) (.tup (.cons (.tup (.cons (.int 0) (.cons (.int 0) .nil))) (.cons (.tup (.cons (.int 0) (.cons (.int 1) .nil))) (.cons (.tup (.cons (.int 1) (.cons (.int 0) .nil))) .nil))))) (baE bag kn x2 ds x4 x5 x6) = some (crowdD es, baE bag kn x2 ds x4 x5 x6) → runF p W cal ⟨"_law_bare", 1, n_law_bare, b_law_bare kp ks kd⟩ [b] = some (crowdD es, [bag]) := by
    intro es he
    have body : evS p.gs cal W (b_law_bare kp ks kd) [some b, none, none, none, none, none, none] = some (.rt (crowdD es) (baE bag kn x2 ds x4 x5 x6)) := by
      show evS p.gs cal W (.cons _ (.cons _ (.cons (.for_ (.nm 2) _ (baBd kp ks kd) []) (.cons _ .nil)))) _ = _
      rw [ev_cons h1, ev_cons h2, ev_cons h3, ev_cons_rt (ev_ret he (bor_crowd es))]
    have g0 : (baE bag kn x2 ds x4 x5 x6)[0]? = some (some bag) := by simp [baE]
    unfold runF
    simp [n_law_bare, borL, f0, body, finL, as, g0]
  have bd := borL_dots ds
  have ld := look_dots ds
  have fz := frz_dots ds
  by_cases h : (2 : Int) < ds.length
  · refine ⟨ds, bag, fin ds ?_, hb4, cr, by omega, by simp at len; omega⟩
    simp [evE, evA, baE, look, ld, bor, bd, isP, biS, lenS, cmpS, h, tupS, crowdD]
  · refine ⟨[(0, 0), (0, 1), (1, 0)], bag, fin _ ?_, hb4, ⟨by decide, fun q hq => ?_⟩, by simp, by simp⟩
    · simp [evE, evA, baE, look, ld, bor, borL, bd, isP, biS, lenS, cmpS, h, crowdD, dotD]
    · simp only [List.mem_cons, List.not_mem_nil, or_false] at hq
      rcases hq with rfl | rfl | rfl <;> decide +revert
end Pur

namespace Pur
open PySem
theorem len_lot {gl : List (Str × D)} {cal : Cal} {c : Nat} {l : List Int} {ρ : En} (h0 : ρ[c]? = some (some (lotD l))) : evE gl cal (.bi .len (.cons (.v .bo c) .nil)) ρ = some (.int l.length, ρ) := by
  have e : lenS [lotD l] = some (.int l.length) := by simp [lotD, lenS]
  simp only [evE, evA, h0, look_lot, bor_lot, isP]
  simp [biS, e]
theorem lotsof_step (p : Pg) (cal : Cal) (W : Nat) {many size : Int} {x2 x3 x5 : Option D} {acc : List (List Int)} {l : List Int} (h : LotOk many l) (hm : 0 ≤ many) (h2 : many ≤ 1000) (hl : l.length < 60) (hsz : acc.length + (growI many l).length ≤ 10000000) :
    evS p.gs cal W (.cons (.ext 4 (.lc (.bin .add (.v .bo 5) (.tup (.cons (.v .bo 6) .nil))) (.nm 6) (.rng2 (.ife (.cmp .gt (.bi .len (.cons (.v .bo 5) .nil)) (.int 0)) (.bin .add (.idx (.v .bo 5) (.neg (.int 1))) (.int 1)) (.int 0)) (.v .bo 0)) (.bl true) [6])) .nil)
      [some (.int many), some (.int size), x2, x3, some (.lst .own (acc.map lotD)), some (lotD l), none] =
    some (.nx [some (.int many), some (.int size), x2, x3, some (.lst .own ((acc ++ growI many l).map lotD)), some (lotD l), none]) := by
  have hb := (stillL _ (frz_ints l)).2.2
  have hk := (stillL _ (frz_ints l)).2.1
  obtain ⟨n1, n2⟩ := nextI_ok h hm
  have sz := sizeLine_val
  have acc0 := (stillL _ (frz_lots acc)).2.2
  have ife : evE p.gs cal (.ife (.cmp .gt (.bi .len (.cons (.v .bo 5) .nil)) (.int 0)) (.bin .add (.idx (.v .bo 5) (.neg (.int 1))) (.int 1)) (.int 0)) [some (.int many), some (.int size), x2, x3, some (.lst .own (acc.map lotD)), some (lotD l), none] =
      some (.int (nextI l), [some (.int many), some (.int size), x2, x3, some (.lst .own (acc.map lotD)), some (lotD l), none]) := by
    cases l with
    | nil => simp [evE, evA, lotD, look, lookL, bor, borL, isP, biS, lenS, cmpS, nextI]
    | cons x xs =>
      have e : (x :: xs).getLast? = some ((x :: xs)[xs.length]) := by rw [List.getLast?_eq_getElem?]; simp
      have g : ((x :: xs).map D.int)[xs.length]? = some (.int ((x :: xs)[xs.length])) := by rw [List.getElem?_map, List.getElem?_eq_getElem (by simp)]; rfl
      have lk : look (lotD (x :: xs)) = lotD (x :: xs) := (still1 _ (frz_lot _)).2.1
      have bo : bor (lotD (x :: xs)) = false := (still1 _ (frz_lot _)).2.2
      have ix : idxS (lotD (x :: xs)) (.int (-1)) = some (.int ((x :: xs)[xs.length])) := by
        unfold lotD idxS L2.atI L2.ixN
        show Option.bind (if (0:Int) ≤ -1 then _ else _) _ = _
        have e1 : ¬ ((0:Int) ≤ -1) := by decide
        have e2 : -(((x :: xs).map D.int).length : Int) ≤ -1 := by simp; omega
        have e3 : (-1 + (((x :: xs).map D.int).length : Int)).toNat = xs.length := by simp; omega
        rw [if_neg e1, if_pos e2]
        simp only [Option.bind_some, e3]
        exact g
      have ll := len_lot (gl := p.gs) (cal := cal) (c := 5) (l := x :: xs) (ρ := [some (.int many), some (.int size), x2, x3, some (.lst .own (acc.map lotD)), some (lotD (x :: xs)), none]) rfl
      have cn : evE p.gs cal (.cmp .gt (.bi .len (.cons (.v .bo 5) .nil)) (.int 0)) [some (.int many), some (.int size), x2, x3, some (.lst .own (acc.map lotD)), some (lotD (x :: xs)), none] = some (.bl true, [some (.int many), some (.int size), x2, x3, some (.lst .own (acc.map lotD)), some (lotD (x :: xs)), none]) := by
        have gt : (0 : Int) < ((x :: xs).length : Nat) := by simp
        rw [evE, ll]
        simp only [evE, bor, cmp_gt, gt, decide_true]
        rfl
      have v5 : evE p.gs cal (.v .bo 5) [some (.int many), some (.int size), x2, x3, some (.lst .own (acc.map lotD)), some (lotD (x :: xs)), none] = some (lotD (x :: xs), [some (.int many), some (.int size), x2, x3, some (.lst .own (acc.map lotD)), some (lotD (x :: xs)), none]) := by simp [evE, lk]
      have ie : evE p.gs cal (.idx (.v .bo 5) (.neg (.int 1))) [some (.int many), some (.int size), x2, x3, some (.lst .own (acc.map lotD)), some (lotD (x :: xs)), none] = some (.int ((x :: xs)[xs.length]), [some (.int many), some (.int size), x2, x3, some (.lst .own (acc.map lotD)), some (lotD (x :: xs)), none]) := by
        rw [evE, v5]
        simp only [evE, bo, ix]
        rfl
      have ad : evE p.gs cal (.bin .add (.idx (.v .bo 5) (.neg (.int 1))) (.int 1)) [some (.int many), some (.int size), x2, x3, some (.lst .own (acc.map lotD)), some (lotD (x :: xs)), none] = some (.int ((x :: xs)[xs.length] + 1), [some (.int many), some (.int size), x2, x3, some (.lst .own (acc.map lotD)), some (lotD (x :: xs)), none]) := by
        rw [evE, ie]
        simp [evE, bor, binS, addS]
      rw [evE, cn]
      simp only [ad, nextI, e]
  let ρ : En := [some (.int many), some (.int size), x2, x3, some (.lst .own (acc.map lotD)), some (lotD l), none]
  have lk : look (lotD l) = lotD l := (still1 _ (frz_lot _)).2.1
  have bo : bor (lotD l) = false := (still1 _ (frz_lot _)).2.2
  have rng := ev_rng2 (b := .v .bo 0) (j := many) (ρ2 := ρ) ife (by simp [evE, look, ρ]) (by omega) (by omega) (by omega) (by omega)
  have comp : evE p.gs cal (.lc (.bin .add (.v .bo 5) (.tup (.cons (.v .bo 6) .nil))) (.nm 6) (.rng2 (.ife (.cmp .gt (.bi .len (.cons (.v .bo 5) .nil)) (.int 0)) (.bin .add (.idx (.v .bo 5) (.neg (.int 1))) (.int 1)) (.int 0)) (.v .bo 0)) (.bl true) [6]) ρ = some (.lst .own ((growI many l).map lotD), ρ) := by
    have hL : lcL (lcF p.gs cal (.bin .add (.v .bo 5) (.tup (.cons (.v .bo 6) .nil))) (.nm 6) (.bl true) [6]) (rangeD (nextI l) (many - nextI l).toNat) (wipeD ρ [6]) = some ((rangeD (nextI l) (many - nextI l).toNat).flatMap (fun x => [match x with | .int j => lotD (l ++ [j]) | _ => .non]), ρ) := by
      refine lcL_flat fun x hx => ?_
      simp only [rangeD, List.mem_map, List.mem_range] at hx
      obtain ⟨k, hk, rfl⟩ := hx
      have ad : addS (lotD l) (.tup [.int (nextI l + (k : Nat))]) = some (lotD (l ++ [nextI l + (k : Nat)])) := by
        unfold lotD addS
        simp
        omega
      have bo2 := (still1 _ (frz_lot (l ++ [nextI l + (k : Nat)]))).2.2
      simp [lcF, ρ, wipeD, bindT, bor, evE, evA, lk, bo, look, isP, binS, ad, bo2]
    have := ev_lc (elt := .bin .add (.v .bo 5) (.tup (.cons (.v .bo 6) .nil))) (c := .bl true) (t := .nm 6) (vs := [6]) (kp := .non) (by unfold evI; rw [rng]; rfl) (by simp [bor]) (by simp [rangeD]; omega) (by simp [tgs]) hL
    rw [this]
    simp [restore, ρ, growI, rangeI, rangeD, List.flatMap_map, Function.comp_def]
    rw [List.map_eq_flatMap]
  have grow0 : borL ((growI many l).map lotD) = false := (stillL _ (frz_lots _)).2.2
  simp only [ρ] at comp
  have le : acc.length + (growI many l).length ≤ sizeLine := by omega
  simp [evS, comp, grow0, le]

/-- lots_of -/
theorem lotsof_ok (p : Pg) (cal : Cal) (W : Nat) {many : Int} {size : Nat} (hm : 0 ≤ many) (h2 : many ≤ 1000) (hs : size ≤ 50) (hb : ∀ n ≤ size, many.toNat ^ n ≤ 10000000) :
    runF p W cal ⟨"lots_of", 2, n_lots_of, b_lots_of⟩ [.int many, .int size] = some (.lst .own ((lotsI many size).map lotD), [.int many, .int size]) := by
  let bd : S := .cons (.asg (.nm 4) (.lst .nil)) (.cons (.for_ (.nm 5) (.v .fz 2) (.cons (.ext 4 (.lc (.bin .add (.v .bo 5) (.tup (.cons (.v .bo 6) .nil))) (.nm 6) (.rng2 (.ife (.cmp .gt (.bi .len (.cons (.v .bo 5) .nil)) (.int 0)) (.bin .add (.idx (.v .bo 5) (.neg (.int 1))) (.int 1)) (.int 0)) (.v .bo 0)) (.bl true) [6])) .nil) []) (.cons (.asg (.nm 2) (.v .mv 4)) .nil))
  have inner : ∀ (n : Nat) (x3 x4 x5 : Option D), n + 1 ≤ size → ∃ x4' x5', evS p.gs cal W bd [some (.int many), some (.int size), some (.lst .own ((lotsI many n).map lotD)), x3, x4, x5, none] =
      some (.nx [some (.int many), some (.int size), some (.lst .own ((lotsI many (n + 1)).map lotD)), x3, x4', x5', none]) := by
    intro n x3 x4 x5 hn
    obtain ⟨k1, k2⟩ := lots_len hm (n := n) (by omega)
    obtain ⟨k3, k4⟩ := lots_len hm (n := n + 1) (by omega)
    have kb := hb (n + 1) hn
    obtain ⟨s1, s2, s3⟩ := stillL _ (frz_lots (lotsI many n))
    let I : List D → En → Prop := fun items ρ => ∃ (rest done : List (List Int)) (x5 : Option D), items = rest.map lotD ∧ done ++ rest = lotsI many n ∧
      ρ = [some (.int many), some (.int size), some (.lst .frz ((lotsI many n).map lotD)), x3, some (.lst .own ((done.flatMap (growI many)).map lotD)), x5, none]
    obtain ⟨ρ', e1, rest, done, x5', e2, e3, rfl⟩ := forL_inv (wp := []) (t := .nm 5) (f := evS p.gs cal W (.cons (.ext 4 (.lc (.bin .add (.v .bo 5) (.tup (.cons (.v .bo 6) .nil))) (.nm 6) (.rng2 (.ife (.cmp .gt (.bi .len (.cons (.v .bo 5) .nil)) (.int 0)) (.bin .add (.idx (.v .bo 5) (.neg (.int 1))) (.int 1)) (.int 0)) (.v .bo 0)) (.bl true) [6])) .nil)) I
      (items := (lotsI many n).map lotD) (ρ := [some (.int many), some (.int size), some (.lst .frz ((lotsI many n).map lotD)), x3, some (.lst .own []), x5, none])
      ⟨lotsI many n, [], x5, rfl, rfl, rfl⟩ (by
        rintro x xs ρ ⟨rest, done, y5, q1, q2, rfl⟩
        cases rest with
        | nil => cases q1
        | cons l rest =>
          simp only [List.map_cons, List.cons.injEq] at q1
          obtain ⟨rfl, rfl⟩ := q1
          have hl := k1 l (by rw [← q2]; simp)
          have hsz : (done.flatMap (growI many)).length + (growI many l).length ≤ 10000000 := by
            have : (lotsI many (n + 1)).length = (done.flatMap (growI many)).length + ((growI many l).length + (rest.flatMap (growI many)).length) := by
              simp only [lotsI, ← q2, List.flatMap_append, List.flatMap_cons, List.length_append]
            omega
          have st := lotsof_step p cal W (many := many) (size := size) (x2 := some (.lst .frz ((lotsI many n).map lotD))) (x3 := x3) (x5 := none) (acc := done.flatMap (growI many)) (l := l) hl.1 hm h2 (by omega) hsz
          refine ⟨_, _, ?_, .inl st, rest, done ++ [l], some (lotD l), rfl, by simp [q2], ?_⟩
          · simp [bindT, (still1 _ (frz_lot l)).2.2]
          · simp [wipeD])
    have er : rest = [] := by cases rest with
      | nil => rfl
      | cons _ _ => cases e2
    subst er
    rw [List.append_nil] at e3
    subst e3
    refine ⟨none, x5', ?_⟩
    have g0 : borL ((lotsI many (n + 1)).map lotD) = false := (stillL _ (frz_lots _)).2.2
    have g1 : frzL ((lotsI many n).map lotD) = true := frz_lots _
    simp only [lotsI] at g0
    have h1 : evS p.gs cal W (.asg (.nm 4) (.lst .nil)) [some (.int many), some (.int size), some (.lst .own ((lotsI many n).map lotD)), x3, x4, x5, none] =
        some (.nx [some (.int many), some (.int size), some (.lst .own ((lotsI many n).map lotD)), x3, some (.lst .own []), x5, none]) := by simp [evS, evE, evA, bindT, bor, borL]
    have h2' : evI p.gs cal (.v .fz 2) [some (.int many), some (.int size), some (.lst .own ((lotsI many n).map lotD)), x3, some (.lst .own []), x5, none] =
        some ((lotsI many n).map lotD, .lst .frz ((lotsI many n).map lotD), [some (.int many), some (.int size), some (.lst .frz ((lotsI many n).map lotD)), x3, some (.lst .own []), x5, none]) := by
      simp [evI, evE, share, s1, itOf, seqOf, g1]
    have h3 := (ev_for (cal := cal) (W := W) (t := .nm 5) (b := .cons (.ext 4 (.lc (.bin .add (.v .bo 5) (.tup (.cons (.v .bo 6) .nil))) (.nm 6) (.rng2 (.ife (.cmp .gt (.bi .len (.cons (.v .bo 5) .nil)) (.int 0)) (.bin .add (.idx (.v .bo 5) (.neg (.int 1))) (.int 1)) (.int 0)) (.v .bo 0)) (.bl true) [6])) .nil) (wp := []) h2' (by simp [bor, s3])).trans e1
    show evS p.gs cal W (.cons _ _) _ = _
    rw [ev_cons h1, ev_cons h3]
    simp [evS, evE, bindT, bor, g0, lotsI]
  let I : List D → En → Prop := fun items ρ => ∃ (n : Nat) (x3 x4 x5 : Option D), n + items.length = size ∧ (∀ x ∈ items, bor x = false) ∧
    ρ = [some (.int many), some (.int size), some (.lst .own ((lotsI many n).map lotD)), x3, x4, x5, none]
  obtain ⟨ρ', e1, n, x3, x4, x5, e2, _, rfl⟩ := forL_inv (wp := []) (t := .nm 3) (f := evS p.gs cal W bd) I (items := rangeD 0 size)
    (ρ := [some (.int many), some (.int size), some (.lst .own ((lotsI many 0).map lotD)), none, none, none, none])
    ⟨0, none, none, none, by simp [rangeD], fun x hx => by
      simp only [rangeD, List.mem_map] at hx
      obtain ⟨k, _, rfl⟩ := hx
      rfl, rfl⟩ (by
      rintro x xs ρ ⟨n, x3, x4, x5, q1, q2, rfl⟩
      obtain ⟨x4', x5', st⟩ := inner n (some x) x4 x5 (by simp at q1; omega)
      refine ⟨_, _, ?_, .inl st, n + 1, some x, x4', x5', by simp at q1; omega, fun y hy => q2 y (List.mem_cons_of_mem _ hy), by simp [wipeD]⟩
      simp [bindT, q2 x List.mem_cons_self])
  have en : n = size := by simpa using e2
  subst en
  have h1 : evS p.gs cal W (.asg (.nm 2) (.lst (.cons (.tup .nil) .nil))) [some (.int many), some (.int n), none, none, none, none, none] =
      some (.nx [some (.int many), some (.int n), some (.lst .own ((lotsI many 0).map lotD)), none, none, none, none]) := by simp [evS, evE, evA, bindT, bor, borL, lotsI, lotD]
  have h2' : evI p.gs cal (.rng (.v .bo 1)) [some (.int many), some (.int n), some (.lst .own ((lotsI many 0).map lotD)), none, none, none, none] =
      some (rangeD 0 n, .non, [some (.int many), some (.int n), some (.lst .own ((lotsI many 0).map lotD)), none, none, none, none]) := by
    unfold evI
    rw [ev_rng (a := .v .bo 1) (j := n) (ρ1 := [some (.int many), some (.int n), some (.lst .own ((lotsI many 0).map lotD)), none, none, none, none]) (by simp [evE, look]) (by omega) (by omega)]
    simp [itOf]
  have h3 := (ev_for (cal := cal) (W := W) (t := .nm 3) (b := bd) (wp := []) h2' rfl).trans e1
  have g0 : borL ((lotsI many n).map lotD) = false := (stillL _ (frz_lots _)).2.2
  have hb' : evS p.gs cal W b_lots_of [some (.int many), some (.int n), none, none, none, none, none] = some (.rt (.lst .own ((lotsI many n).map lotD)) [some (.int many), some (.int n), none, x3, x4, x5, none]) := by
    show evS p.gs cal W (.cons _ (.cons (.for_ (.nm 3) (.rng (.v .bo 1)) bd []) _)) _ = _
    rw [ev_cons h1, ev_cons h3]
    simp [evS, evE, bor, g0]
  unfold runF
  simp [n_lots_of, borL, bor, hb', finL, frz]
end Pur

namespace Pur
open PySem
/-! third_shown, thirds_many -/
def CheckS (cal : Cal) (k : Nat) : Prop := ∀ ds, Crowd ds → cal k [crowdD ds] = some (.non, [crowdD ds])
def HasS (cal : Cal) (k : Nat) : Prop := ∀ ds l, LotIn ds l → cal k [crowdD ds, lotD l] = some (.bl (isThird ds l), [crowdD ds, lotD l])
theorem ev_check {gl : List (Str × D)} {cal : Cal} {W k : Nat} (h : CheckS cal k) {ds : List (Int × Int)} (hc : Crowd ds) {ρ : En} (h0 : ρ[0]? = some (some (crowdD ds))) : evS gl cal W (.ex (.fc k (.cons (.lend 0) .nil))) ρ = some (.nx ρ) := by
  have hL : lendOf (.lend 0) = some 0 := rfl
  have f := (frz_crowd ds).1
  rw [evS, evE, evF]
  simp only [hL, h0, evF, lends, fillL, f, if_true, h ds hc, giveL]
  rfl
theorem len_crowd {gl : List (Str × D)} {cal : Cal} {c : Nat} {ds : List (Int × Int)} {ρ : En} (h0 : ρ[c]? = some (some (crowdD ds))) : evE gl cal (.bi .len (.cons (.v .bo c) .nil)) ρ = some (.int ds.length, ρ) := by
  have e : lenS [crowdD ds] = some (.int ds.length) := by simp [crowdD, lenS]
  simp only [evE, evA, h0, look_crowd, bor_crowd, isP]
  simp [biS, e]
theorem it_lots {gl : List (Str × D)} {cal : Cal} {k : Nat} (h : LotsS cal k) {ds : List (Int × Int)} (hn : ds.length ≤ 60) {ρ : En} (h0 : ρ[0]? = some (some (crowdD ds))) :
    evI gl cal (.fc k (.cons (.bi .len (.cons (.v .bo 0) .nil)) (.cons (.int 3) .nil))) ρ = some ((lotsI ds.length 3).map lotD, .lst .own ((lotsI ds.length 3).map lotD), ρ) := by
  have lots' : cal k [.int ds.length, .int 3] = some (.lst .own ((lotsI ds.length 3).map lotD), [.int ds.length, .int 3]) := h ds.length 3 (by omega) (by omega) (by omega)
  have hL : lendOf (.bi .len (.cons (.v .bo 0) .nil)) = none := rfl
  have fl := frz_lots (lotsI ds.length 3)
  have bl := (stillL _ fl).2.2
  unfold evI
  rw [evE, evF]
  simp only [hL, len_crowd h0]
  simp [evF, evE, lendOf, lends, bor, fillL, giveL, lots', bl, itOf, seqOf, fl]
theorem has_ev {gl : List (Str × D)} {cal : Cal} {k : Nat} (h : HasS cal k) {ds : List (Int × Int)} {l : List Int} (hl : LotIn ds l) : evE gl cal (.fc k (.cons (.lend 0) (.cons (.lend 1) .nil))) [some (crowdD ds), some (lotD l)] = some (.bl (isThird ds l), [some (crowdD ds), some (lotD l)]) := by
  simp [evE, evF, lendOf, lends, fillL, giveL, frz_crowd, frz_lot, h ds l hl, bor]
def shown (ls : List (List Int)) : D := match ls with
  | [] => .tup [.str "none"]
  | l :: _ => .tup [.str "three", lotD l]
def shBd (kh g : Nat) : S := .cons (.ifs (.fc kh (.cons (.lend 0) (.cons (.lend 1) .nil))) (.cons (.ret (.tup (.cons (.glob g) (.cons (.v .bo 1) .nil)))) .nil) .nil) .nil
theorem sh_loop {p : Pg} {cal : Cal} {W kh g : Nat} {x : Str} (h : HasS cal kh) (hg : p.gs[g]? = some (x, .str "three")) {ds : List (Int × Int)} : ∀ (L : List (List Int)) (x1 : Option D), (∀ l ∈ L, LotIn ds l) →
    ∃ y1, forL [] (.nm 1) (evS p.gs cal W (shBd kh g)) (L.map lotD) [some (crowdD ds), x1] = match L.filter (isThird ds) with
      | [] => some (.nx [some (crowdD ds), y1])
      | l :: _ => some (.rt (.tup [.str "three", lotD l]) [some (crowdD ds), y1])
  | [], x1, _ => ⟨x1, rfl⟩
  | l :: L, x1, hl => by
    obtain ⟨y1, ih⟩ := sh_loop (W := W) h hg L (some (lotD l)) fun z hz => hl z (List.mem_cons_of_mem _ hz)
    have e := has_ev (gl := p.gs) h (hl l List.mem_cons_self)
    have bt : bindT (.nm 1) (lotD l) [some (crowdD ds), x1] = some [some (crowdD ds), some (lotD l)] := by simp [bindT, bor_lot]
    cases ht : isThird ds l with
    | true =>
      rw [ht] at e
      refine ⟨some (lotD l), ?_⟩
      have st : evS p.gs cal W (shBd kh g) [some (crowdD ds), some (lotD l)] = some (.rt (.tup [.str "three", lotD l]) [some (crowdD ds), some (lotD l)]) := by
        unfold shBd
        refine ev_cons_rt ?_
        rw [evS, e]
        refine ev_cons_rt (ev_ret ?_ ?_)
        · simp [evE, evA, hg, look_lot, bor_lot, bor]
        · simp [bor, borL, bor_lot]
      simp only [List.map_cons, forL, bt, st, List.filter_cons, ht, if_true]
    | false =>
      rw [ht] at e
      refine ⟨y1, ?_⟩
      have st : evS p.gs cal W (shBd kh g) [some (crowdD ds), some (lotD l)] = some (.nx [some (crowdD ds), some (lotD l)]) := by
        have s1 : evS p.gs cal W (.ifs (.fc kh (.cons (.lend 0) (.cons (.lend 1) .nil))) (.cons (.ret (.tup (.cons (.glob g) (.cons (.v .bo 1) .nil)))) .nil) .nil) [some (crowdD ds), some (lotD l)] = some (.nx [some (crowdD ds), some (lotD l)]) := by
          rw [evS, e]
          simp only [evS]
        unfold shBd
        rw [ev_cons s1, evS]
      simp only [List.map_cons, forL, bt, st, List.filter_cons, ht, wipeD]
      exact ih
theorem shown_run {p : Pg} {cal : Cal} {W kc kl kh g1 g2 : Nat} {x y : Str} (hc : CheckS cal kc) (hl : LotsS cal kl) (hh : HasS cal kh) (hg1 : p.gs[g1]? = some (x, .str "three")) (hg2 : p.gs[g2]? = some (y, .str "none")) {ds : List (Int × Int)} (cr : Crowd ds) :
    runF p W cal ⟨"third_shown", 1, n_third_shown, b_third_shown kc kl kh g1 g2⟩ [crowdD ds] = some (shown (thirdsI ds), [crowdD ds]) := by
  have hi := cr.hi
  have h1 := ev_check (gl := p.gs) (W := W) hc cr (ρ := [some (crowdD ds), none]) rfl
  have it := it_lots (gl := p.gs) hl (ds := ds) (by omega) (ρ := [some (crowdD ds), none]) rfl
  have bl := (stillL _ (frz_lots (lotsI ds.length 3))).2.2
  obtain ⟨y1, lp⟩ := sh_loop (W := W) hh hg1 (ds := ds) (lotsI ds.length 3) none fun l h => lot_in h
  have h2 := (ev_for (gl := p.gs) (cal := cal) (W := W) (t := .nm 1) (b := shBd kh g1) (wp := []) it (by simp [bor, bl])).trans lp
  have body : evS p.gs cal W (b_third_shown kc kl kh g1 g2) [some (crowdD ds), none] = some (.rt (shown (thirdsI ds)) [some (crowdD ds), y1]) := by
    show evS p.gs cal W (.cons _ (.cons (.for_ (.nm 1) _ (shBd kh g1) []) (.cons _ .nil))) _ = _
    rw [ev_cons h1]
    unfold thirdsI
    cases hf : (lotsI ds.length 3).filter (isThird ds) with
    | nil =>
      rw [hf] at h2
      rw [ev_cons h2, ev_cons_rt (ev_ret (d := .tup [.str "none"]) (ρ1 := [some (crowdD ds), y1]) (by simp [evE, evA, hg2, bor]) (by simp [bor, borL]))]
      rfl
    | cons l r =>
      rw [hf] at h2
      rw [ev_cons_rt h2]
      rfl
  unfold runF
  simp [n_third_shown, bor_crowd, borL, body, finL, frz_crowd]
theorem many_run {p : Pg} {cal : Cal} {W kc kl kh : Nat} (hc : CheckS cal kc) (hl : LotsS cal kl) (hh : HasS cal kh) {ds : List (Int × Int)} (cr : Crowd ds) :
    runF p W cal ⟨"thirds_many", 1, n_thirds_many, b_thirds_many kc kl kh⟩ [crowdD ds] = some (.int (thirdsI ds).length, [crowdD ds]) := by
  have hi := cr.hi
  have h1 := ev_check (gl := p.gs) (W := W) hc cr (ρ := [some (crowdD ds), none]) rfl
  have it := it_lots (gl := p.gs) hl (ds := ds) (by omega) (ρ := [some (crowdD ds), none]) rfl
  have bl := (stillL _ (frz_lots (lotsI ds.length 3))).2.2
  obtain ⟨lt1, lt2⟩ := lots_len (many := (ds.length : Int)) (by omega) (n := 3) (by omega)
  have ltn : (lotsI ds.length 3).length ≤ 100000 := by
    refine Nat.le_trans lt2 ?_
    have := Nat.pow_le_pow_left (show (ds.length : Int).toNat ≤ 30 by omega) 3
    omega
  let kf : D → Bool := fun x => match x with | .tup xs => (match intsOf xs with | some l => isThird ds l | none => false) | _ => false
  have kfl : ∀ l, kf (lotD l) = isThird ds l := fun l => by simp [kf, lotD, intsOf_ints]
  have lc := ev_filter (gl := p.gs) (cal := cal) (elt := .v .bo 1) (it := .fc kl (.cons (.bi .len (.cons (.v .bo 0) .nil)) (.cons (.int 3) .nil))) (c := .fc kh (.cons (.lend 0) (.cons (.lend 1) .nil))) (p := 1) (ρ := [some (crowdD ds), none]) (k := kf) (g := fun x => x) it (by simp [bor, bl]) (by simp; omega) (by simp) (fun d h => by simp at h) (fun x hx => by obtain ⟨l, _, rfl⟩ := List.mem_map.mp hx; exact bor_lot l)
    (fun x hx => by
      obtain ⟨l, hl, rfl⟩ := List.mem_map.mp hx
      rw [kfl]
      exact has_ev hh (lot_in hl)) (fun x hx _ => by
      obtain ⟨l, hl, rfl⟩ := List.mem_map.mp hx
      exact ⟨by simp [evE, look_lot], bor_lot l⟩)
  have fe : (((lotsI ds.length 3).map lotD).filter kf).map (fun x => x) = (thirdsI ds).map lotD := by
    unfold thirdsI
    rw [List.map_id', List.filter_map]
    congr 1
    exact List.filter_congr fun l _ => kfl l
  rw [fe] at lc
  have bt := (stillL _ (frz_lots (thirdsI ds))).2.2
  have body : evS p.gs cal W (b_thirds_many kc kl kh) [some (crowdD ds), none] = some (.rt (.int (thirdsI ds).length) [some (crowdD ds), none]) := by
    show evS p.gs cal W (.cons _ (.cons (.ret (.bi .len (.cons _ .nil))) .nil)) _ = _
    rw [ev_cons h1]
    refine ev_cons_rt (ev_ret ?_ rfl)
    rw [evE, evA, lc]
    simp [evA, bor, bt, isP, biS, lenS]
  unfold runF
  simp [n_thirds_many, bor_crowd, borL, body, finL, frz_crowd]
end Pur

namespace Pur
open PySem
/-! check_dots, near_enough, moved -/
theorem dots_run {p : Pg} {cal : Cal} {W k : Nat} (h : DotOkS cal k) {ds : List (Int × Int)} (hd : ∀ q ∈ ds, Far1 q) : runF p W cal ⟨"check_dots", 1, n_check_dots, b_check_dots k⟩ [crowdD ds] = some (.non, [crowdD ds]) := by
  let bd : S := .cons (.ifs (.not_ (.fc k (.cons (.lend 1) .nil))) (.cons .no .nil) .nil) .nil
  let I : List D → En → Prop := fun items ρ => ∃ (rest : List (Int × Int)) (x1 : Option D), items = rest.map dotD ∧ (∀ q ∈ rest, Far1 q) ∧ ρ = [some (crowdD ds), x1]
  obtain ⟨ρ', e, _, x1, _, _, rfl⟩ := forL_inv (wp := []) (t := .nm 1) (f := evS p.gs cal W bd) I (items := ds.map dotD) (ρ := [some (crowdD ds), none])
    ⟨ds, none, rfl, hd, rfl⟩ (by
      rintro x xs ρ ⟨rest, x1, q1, q2, rfl⟩
      cases rest with
      | nil => cases q1
      | cons q rest =>
        simp only [List.map_cons, List.cons.injEq] at q1
        obtain ⟨rfl, rfl⟩ := q1
        have e := h q (q2 q List.mem_cons_self)
        refine ⟨[some (crowdD ds), some (dotD q)], [some (crowdD ds), some (dotD q)], by simp [bindT, bor_dot], .inl ?_, rest, some (dotD q), rfl, fun z hz => q2 z (List.mem_cons_of_mem _ hz), rfl⟩
        simp [bd, evS, evE, evF, lendOf, lends, fillL, giveL, frz_dot, e, bor])
  have it : evI p.gs cal (.v .fz 0) [some (crowdD ds), none] = some (ds.map dotD, crowdD ds, [some (crowdD ds), none]) := by
    simp [evI, evE, frz_crowd, crowdD, share_dots, share, itOf, seqOf, frz_dots]
  have h2 := (ev_for (gl := p.gs) (cal := cal) (W := W) (t := .nm 1) (b := bd) (wp := []) it (bor_crowd ds)).trans e
  have body : evS p.gs cal W (b_check_dots k) [some (crowdD ds), none] = some (.nx [some (crowdD ds), x1]) := by
    show evS p.gs cal W (.cons (.for_ (.nm 1) _ bd []) .nil) _ = _
    rw [ev_cons h2, evS]
  unfold runF
  simp [n_check_dots, bor_crowd, borL, body, finL, frz_crowd]
def lc2F (gl : List (Str × D)) (cal : Cal) (elt : E) (t : T) (t2 : T) (it2 c : E) (vs vs2 : List Nat) : D → En → Option (List D × En) := fun x ρ => match bindT t x ρ with
  | none => none
  | some ρ2 => match evE gl cal it2 ρ2 with
    | none => none
    | some (d2, ρ3) => match itOf it2 d2 with
      | none => none
      | some (items2, kp2) => if bor kp2 || !decide (items2.length ≤ sizeLine) || !(isP elt && isP c && isP it2) then none else
        match lcL (lcF gl cal elt t2 c vs2) items2 (wipeD ρ3 vs2) with
        | some (ys, ρ4) => some (ys, wipeD ρ4 vs)
        | none => none
theorem ev_lc2 {gl : List (Str × D)} {cal : Cal} {elt it it2 c : E} {t t2 : T} {vs vs2 : List Nat} {ρ ρ1 ρ2 : En} {items ys : List D} {kp : D} (hit : evI gl cal it ρ = some (items, kp, ρ1)) (hk : (bor kp && !(isP elt && isP c && isP it2)) = false) (hl : items.length ≤ 10000000) (ht : (tgs t).all vs.contains = true) (ht2 : (tgs t2).all vs2.contains = true) (hv : vs2.all vs.contains = true)
    (hL : lcL (lc2F gl cal elt t t2 it2 c vs vs2) items (wipeD ρ1 vs) = some (ys, ρ2)) (hy : ys.length ≤ 10000000) : evE gl cal (.lc2 elt t it t2 it2 c vs vs2) ρ = some (.lst .own ys, restore ρ1 vs ρ2) := by
  have sz := sizeLine_val
  unfold evI at hit
  cases e1 : evE gl cal it ρ with
  | none => rw [e1] at hit; cases hit
  | some q =>
    obtain ⟨d0, ρ0⟩ := q
    rw [e1] at hit
    cases e2 : itOf it d0 with
    | none => simp only [e2] at hit; cases hit
    | some q2 =>
      obtain ⟨items', kp'⟩ := q2
      simp only [e2, Option.some.injEq, Prod.mk.injEq] at hit
      obtain ⟨rfl, rfl, rfl⟩ := hit
      simp only [evE, e1, e2]
      rw [if_neg (by rw [hk, ht, ht2, hv]; simp; omega)]
      show (match lcL (lc2F gl cal elt t t2 it2 c vs vs2) items' (wipeD ρ0 vs) with
        | some (ys, ρ2) => if ys.length ≤ sizeLine then some (D.lst .own ys, restore ρ0 vs ρ2) else none
        | none => none) = _
      rw [hL]
      simp only
      rw [if_pos (by omega)]
theorem len2 : ∀ L : List (Int × Int), ((L.map dotD).flatMap fun _ => [D.bl true, .bl true]).length = 2 * L.length
  | [] => rfl
  | z :: L => by
    simp only [List.map_cons, List.flatMap_cons, List.length_append, len2 L, List.length_cons, List.length_nil]
    omega
theorem near_run {p : Pg} {cal : Cal} {W g : Nat} {x : Str} (hg : p.gs[g]? = some (x, .int 10000)) {ds : List (Int × Int)} (hd : ∀ q ∈ ds, Far1 q) (hn : ds.length ≤ 1000) : runF p W cal ⟨"near_enough", 1, n_near_enough, b_near_enough g⟩ [crowdD ds] = some (crowdD ds, [crowdD ds]) := by
  have it : evI p.gs cal (.v .bo 0) [some (crowdD ds), none, none] = some (ds.map dotD, crowdD ds, [some (crowdD ds), none, none]) := by
    simp [evI, evE, frz_crowd, crowdD, look_dots, look, itOf, seqOf, frz_dots]
  have hL : lcL (lc2F p.gs cal (.cmp .le (.bi .abs (.cons (.v .bo 2) .nil)) (.glob g)) (.nm 1) (.nm 2) (.v .bo 1) (.bl true) [1, 2] [2]) (ds.map dotD) (wipeD [some (crowdD ds), none, none] [1, 2]) = some ((ds.map dotD).flatMap (fun _ => [.bl true, .bl true]), [some (crowdD ds), none, none]) := by
    refine lcL_flat fun y hy => ?_
    obtain ⟨q, hq, rfl⟩ := List.mem_map.mp hy
    obtain ⟨q1, q2, q3, q4⟩ := hd q hq
    have sz := sizeLine_val
    have s2 : 2 ≤ sizeLine := by omega
    have a1 : (if q.1 < 0 then -q.1 else q.1) ≤ 10000 := by split <;> omega
    have a2 : (if q.2 < 0 then -q.2 else q.2) ≤ 10000 := by split <;> omega
    have l1 : look (dotD q) = .tup [.int q.1, .int q.2] := rfl
    have f1 : ∀ i : Int, (if i < 0 then -i else i) ≤ 10000 → lcF p.gs cal (.cmp .le (.bi .abs (.cons (.v .bo 2) .nil)) (.glob g)) (.nm 2) (.bl true) [2] (.int i) [some (crowdD ds), some (dotD q), none] = some ([.bl true], [some (crowdD ds), some (dotD q), none]) := by
      intro i hi
      refine (lcF_true (y := .bl true) (ρ2 := [some (crowdD ds), some (dotD q), some (.int i)]) (ρ4 := [some (crowdD ds), some (dotD q), some (.int i)]) (by simp [bindT, bor]) ?_ rfl).trans (by simp [wipeD])
      simp [evE, evA, look, bor, isP, biS, absS, hg, cmpS, hi]
    have bt : bindT (.nm 1) (dotD q) [some (crowdD ds), none, none] = some [some (crowdD ds), some (dotD q), none] := by simp [bindT, bor_dot]
    have ev : evE p.gs cal (.v .bo 1) [some (crowdD ds), some (dotD q), none] = some (.tup [.int q.1, .int q.2], [some (crowdD ds), some (dotD q), none]) := by simp [evE, l1]
    have ito : itOf (.v .bo 1) (.tup [.int q.1, .int q.2]) = some ([.int q.1, .int q.2], .tup [.int q.1, .int q.2]) := by simp [itOf, seqOf, frzL, frz]
    have w1 : wipeD [some (crowdD ds), none, none] [1, 2] = [some (crowdD ds), none, none] := by simp [wipeD]
    have w2 : wipeD [some (crowdD ds), some (dotD q), none] [2] = [some (crowdD ds), some (dotD q), none] := by simp [wipeD]
    have w3 : wipeD [some (crowdD ds), some (dotD q), none] [1, 2] = [some (crowdD ds), none, none] := by simp [wipeD]
    have ll : lcL (lcF p.gs cal (.cmp .le (.bi .abs (.cons (.v .bo 2) .nil)) (.glob g)) (.nm 2) (.bl true) [2]) [.int q.1, .int q.2] [some (crowdD ds), some (dotD q), none] = some ([.bl true, .bl true], [some (crowdD ds), some (dotD q), none]) := by
      simp only [lcL, f1 q.1 a1, f1 q.2 a2]
      rfl
    simp only [lc2F, w1, bt, ev, ito, w2, ll, w3]
    rw [if_neg (by simp [bor, borL, isP, s2])]
  have lc := ev_lc2 (gl := p.gs) (cal := cal) (t := .nm 1) (t2 := .nm 2) (vs := [1, 2]) (vs2 := [2]) it (by simp [bor_crowd]) (by simp; omega) (by simp [tgs]) (by simp [tgs]) (by simp) hL (by rw [len2]; omega)
  have fl : ∀ L : List (Int × Int), blsOf ((L.map dotD).flatMap fun _ => [D.bl true, .bl true]) = some (L.flatMap fun _ => [true, true]) := by
    intro L
    induction L with
    | nil => rfl
    | cons z L ih => simp [List.flatMap_cons, blsOf, ih]
  have bo : ∀ L : List (Int × Int), borL ((L.map dotD).flatMap fun _ => [D.bl true, .bl true]) = false := by
    intro L
    induction L with
    | nil => rfl
    | cons z L ih => simp [List.flatMap_cons, borL, bor, ih]
  have tr : ((ds.flatMap fun _ => [true, true]).all id) = true := by
    rw [List.all_eq_true]
    intro b hb
    obtain ⟨_, _, hb⟩ := List.mem_flatMap.mp hb
    simp at hb
    simp [hb]
  have all : evE p.gs cal (.bi .all (.cons (.lc2 (.cmp .le (.bi .abs (.cons (.v .bo 2) .nil)) (.glob g)) (.nm 1) (.v .bo 0) (.nm 2) (.v .bo 1) (.bl true) [1, 2] [2]) .nil)) [some (crowdD ds), none, none] = some (.bl true, [some (crowdD ds), none, none]) := by
    rw [evE, evA, lc]
    have rs : restore [some (crowdD ds), none, none] [1, 2] [some (crowdD ds), none, none] = [some (crowdD ds), none, none] := by simp [restore]
    have al : biS .all [D.lst .own ((ds.map dotD).flatMap fun _ => [D.bl true, .bl true])] = some (.bl true) := by simp only [biS, allS, fl, Option.map_some, tr]
    have i0 : ((decide (Fl.own = Fl.bor) || false) && !true) = false := rfl
    simp only [evA, rs, bor, bo, isP, i0]
    show Option.map _ (biS .all _) = _
    rw [al]
    rfl
  have h1 : evS p.gs cal W (.ifs (.not_ (.bi .all (.cons (.lc2 (.cmp .le (.bi .abs (.cons (.v .bo 2) .nil)) (.glob g)) (.nm 1) (.v .bo 0) (.nm 2) (.v .bo 1) (.bl true) [1, 2] [2]) .nil))) (.cons .no .nil) .nil) [some (crowdD ds), none, none] = some (.nx [some (crowdD ds), none, none]) := by
    rw [evS, evE, all]
    simp [evS]
  have body : evS p.gs cal W (b_near_enough g) [some (crowdD ds), none, none] = some (.rt (crowdD ds) [some (crowdD ds), none, none]) := by
    show evS p.gs cal W (.cons _ (.cons (.ret _) .nil)) _ = _
    rw [ev_cons h1, ev_cons_rt (ev_ret (d := crowdD ds) (ρ1 := [some (crowdD ds), none, none]) (by simp [evE, look_crowd]) (bor_crowd ds))]
  unfold runF
  simp [n_near_enough, bor_crowd, borL, body, finL, frz_crowd]
def DotsS (cal : Cal) (k : Nat) : Prop := ∀ ds : List (Int × Int), (∀ q ∈ ds, Far1 q) → cal k [crowdD ds] = some (.non, [crowdD ds])
def NearS (cal : Cal) (k : Nat) : Prop := ∀ ds : List (Int × Int), (∀ q ∈ ds, Far1 q) → ds.length ≤ 1000 → cal k [crowdD ds] = some (crowdD ds, [crowdD ds])
theorem moved_run {p : Pg} {cal : Cal} {W kd kc kn : Nat} (hd : DotsS cal kd) (hc : CheckS cal kc) (hn : NearS cal kn) {ds : List (Int × Int)} {q : Int × Int} (cr : Crowd ds) (hq : Far1 q) (hm : ∀ z ∈ moveI ds q, Far1 z) :
    runF p W cal ⟨"moved", 2, n_moved, b_moved kd kc kn⟩ [crowdD ds, dotD q] = some (crowdD (moveI ds q), [crowdD ds, dotD q]) := by
  have hi := cr.hi
  have ln : (moveI ds q).length = ds.length := by simp [moveI]
  have h1 := ev_check (gl := p.gs) (W := W) hc cr (ρ := [some (crowdD ds), some (dotD q), none, none]) rfl
  have c2 : cal kd [.tup [dotD q]] = some (.non, [.tup [dotD q]]) := hd [q] (by simpa using hq)
  have h2 : evS p.gs cal W (.ex (.fc kd (.cons (.tup (.cons (.v .bo 1) .nil)) .nil))) [some (crowdD ds), some (dotD q), none, none] = some (.nx [some (crowdD ds), some (dotD q), none, none]) := by
    simp [evS, evE, evF, evA, lendOf, lends, look_dot, bor_dot, isP, bor, borL, fillL, giveL, c2]
  have it : evI p.gs cal (.v .bo 0) [some (crowdD ds), some (dotD q), none, none] = some (ds.map dotD, crowdD ds, [some (crowdD ds), some (dotD q), none, none]) := by
    simp [evI, evE, crowdD, look_dots, look, itOf, seqOf, frz_dots]
  have lc := ev_map2 (gl := p.gs) (cal := cal) (elt := .tup (.cons (.bin .add (.v .bo 2) (.idx (.v .bo 1) (.int 0))) (.cons (.bin .add (.v .bo 3) (.idx (.v .bo 1) (.int 1))) .nil))) (p := 2) (p' := 3) (g := fun z => dotD (z.1 + q.1, z.2 + q.2)) it (by simp [bor_crowd]) (by omega) rfl rfl (by decide) (fun z _ => by
    refine ⟨?_, rfl⟩
    simp only [evE, evA]
    simp [look, look_dot, bor, bor_dot, isP, at_dot, binS, addS]
    rfl)
  have gm : ds.map (fun z => dotD (z.1 + q.1, z.2 + q.2)) = (moveI ds q).map dotD := by simp [moveI, Function.comp_def]
  rw [gm] at lc
  have nr := hn (moveI ds q) hm (by omega)
  have body : evS p.gs cal W (b_moved kd kc kn) [some (crowdD ds), some (dotD q), none, none] = some (.rt (crowdD (moveI ds q)) [some (crowdD ds), some (dotD q), none, none]) := by
    show evS p.gs cal W (.cons _ (.cons _ (.cons (.ret (.fc kn (.cons (.bi .tuple (.cons _ .nil)) .nil))) .nil))) _ = _
    rw [ev_cons h1, ev_cons h2]
    refine ev_cons_rt (ev_ret ?_ (bor_crowd _))
    have t : evE p.gs cal (.bi .tuple (.cons (.lc (.tup (.cons (.bin .add (.v .bo 2) (.idx (.v .bo 1) (.int 0))) (.cons (.bin .add (.v .bo 3) (.idx (.v .bo 1) (.int 1))) .nil))) (.tp (.cons (.nm 2) (.cons (.nm 3) .nil))) (.v .bo 0) (.bl true) [2, 3]) .nil)) [some (crowdD ds), some (dotD q), none, none] = some (crowdD (moveI ds q), [some (crowdD ds), some (dotD q), none, none]) := by
      rw [evE, evA, lc]
      simp [evA, bor, borL_dots, biS, tupS, crowdD]
    have hL : ∀ es : E, lendOf (.bi .tuple es) = none := fun _ => rfl
    rw [evE, evF]
    simp only [hL, t]
    simp [evF, lends, hL, bor_crowd, fillL, giveL, nr]
  unfold runF
  simp [n_moved, bor_crowd, bor_dot, borL, body, finL, frz_crowd, frz_dot]
end Pur

namespace Pur
open PySem
/-! the law: tools -/
theorem lay_lot (n : Nat) (l : List Int) : lay (n + 1) (lotD l) = true := by simp [lotD, lay, layL_ints]
theorem lay_lots (n : Nat) : ∀ L : List (List Int), layL (n + 1) (L.map lotD) = true
  | [] => rfl
  | l :: L => by simp only [List.map_cons, layL, lay_lot, lay_lots n L]; rfl
theorem eqS_nil (f : Fl) (L : List (List Int)) : eqS (.lst f (L.map lotD)) (.lst .own []) = some (decide (L = [])) := by
  have a : lay 60 (.lst f (L.map lotD)) = true := lay_lots 58 L
  have b : lay 60 (.lst .own []) = true := rfl
  have c : eqD (.lst f (L.map lotD)) (.lst .own []) = decide (L = []) := by
    cases L with
    | nil => exact eqv_nil
    | cons l L => simp [eqD, py, pyL, eqv_cons]
  simp only [eqS, a, b, c]
  rfl
theorem cmp_ne_nil (f : Fl) (L : List (List Int)) : cmpS .ne (.lst f (L.map lotD)) (.lst .own []) = some (.bl (!decide (L = []))) := by
  simp only [cmpS, eqS_nil]
  rfl
theorem cmp_eq_nil (f : Fl) (L : List (List Int)) : cmpS .eq (.lst f (L.map lotD)) (.lst .own []) = some (.bl (decide (L = []))) := by
  simp only [cmpS, eqS_nil]
  rfl
theorem pdEqL_ints : ∀ l : List Int, pdEqL (pyL (l.map D.int)) (pyL (l.map D.int)) = true
  | [] => by simp [pyL, pdEqL]
  | x :: xs => by simp [pyL, py, pdEqL, pdEq, pdEqL_ints xs]
theorem pd_three (l : List Int) (n : Int) : pdEq (py (.lst .own [.tup [.str "three", lotD l], .int n])) (py (.lst .own [.tup [.str "three", lotD l], .int n])) = true := by
  simp [py, pyL, lotD, pdEq, pdEqL, pdEqL_ints]
theorem pd_none (n : Int) : pdEq (py (.lst .own [.tup [.str "none"], .int n])) (py (.lst .own [.tup [.str "none"], .int n])) = true := by
  simp [py, pyL, pdEq, pdEqL]
theorem shown_pd (T : List (List Int)) (n : Int) : pdEq (py (.lst .own [shown T, .int n])) (py (.lst .own [shown T, .int n])) = true := by
  cases T with
  | nil => exact pd_none n
  | cons l r => exact pd_three l n
theorem shown_ok {ds : List (Int × Int)} (hn : ds.length ≤ 60) : reprS [.lst .own [shown (thirdsI ds), .int (thirdsI ds).length]] = some (.rs (py (.lst .own [shown (thirdsI ds), .int (thirdsI ds).length]))) := by
  obtain ⟨lt1, lt2⟩ := lots_len (many := (ds.length : Int)) (by omega) (n := 3) (by omega)
  have ltn : (lotsI ds.length 3).length ≤ 216000 := by
    refine Nat.le_trans lt2 ?_
    have := Nat.pow_le_pow_left (show (ds.length : Int).toNat ≤ 60 by omega) 3
    omega
  have fl : (thirdsI ds).length ≤ (lotsI ds.length 3).length := List.length_filter_le _ _
  have hm : ∀ l ∈ thirdsI ds, l ∈ lotsI ds.length 3 := fun l h => (List.mem_filter.mp h).1
  have sm : ∀ i : Int, 0 ≤ i → i ≤ 300000 → rsz (.int i) = 70 := by
    intro i h0 h1
    have : i.natAbs < 10 ^ 60 := Nat.lt_of_le_of_lt (show i.natAbs ≤ 300000 by omega) (by decide)
    simp only [rsz, if_pos this]
  have rn := sm (thirdsI ds).length (by omega) (by omega)
  have c1 : PyData.canLay0 (.str "three") = true := by decide +kernel
  have c2 : PyData.canLay0 (.str "none") = true := by decide +kernel
  have s1 : rsz (.str "three") ≤ 100 := by decide +kernel
  have s2 : rsz (.str "none") ≤ 100 := by decide +kernel
  generalize (thirdsI ds).length = n at fl rn
  cases hT : thirdsI ds with
  | nil =>
    have a : lay 60 (.lst .own [shown [], .int n]) = true := by simp [shown, lay, layL, c2]
    have b : rsz (.lst .own [shown [], .int n]) ≤ 1000000 := by simp only [shown, rsz, rszL] at rn s2 ⊢; omega
    simp only [reprS, a, b, decide_true]
    rfl
  | cons l r =>
    obtain ⟨i, j, k, rfl, h0, h1, h2, h3⟩ := of_lots3 (hm l (by rw [hT]; exact List.mem_cons_self))
    have a : lay 60 (.lst .own [shown ([i, j, k] :: r), .int n]) = true := by simp [shown, lotD, lay, layL, c1]
    have r1 := sm i (by omega) (by omega)
    have r2 := sm j (by omega) (by omega)
    have r3 := sm k (by omega) (by omega)
    have b : rsz (.lst .own [shown ([i, j, k] :: r), .int n]) ≤ 1000000 := by
      have e : rsz (.lst .own [shown ([i, j, k] :: r), .int n]) = 4 + (4 + (rsz (.str "three") + 2 + (4 + (rsz (.int i) + 2 + (rsz (.int j) + 2 + (rsz (.int k) + 2 + 0))) + 2 + 0)) + 2 + (rsz (.int n) + 2 + 0)) := rfl
      rw [e]
      omega
    simp only [reprS, a, b, decide_true]
    rfl
theorem look_shown (T : List (List Int)) : look (shown T) = shown T := by
  cases T with
  | nil => rfl
  | cons l r => simp [shown, look, lookL, look_lot]
theorem bor_shown (T : List (List Int)) : bor (shown T) = false := by
  cases T with
  | nil => rfl
  | cons l r => simp [shown, bor, borL, bor_lot]
theorem maxL_all : ∀ (ns : List Int) (n x : Int), x ∈ n :: ns → x ≤ maxL n ns
  | [], n, x, h => by
    simp at h
    simp [maxL, h]
  | m :: ms, n, x, h => by
    simp only [maxL]
    by_cases hm : n < m
    · rw [if_pos hm]
      have z := maxL_all ms m
      rcases List.mem_cons.mp h with rfl | h
      · have := z m List.mem_cons_self
        omega
      · exact z x h
    · rw [if_neg hm]
      have z := maxL_all ms n
      rcases List.mem_cons.mp h with rfl | h
      · exact z x List.mem_cons_self
      · rcases List.mem_cons.mp h with rfl | h
        · have := z n List.mem_cons_self
          omega
        · exact z x (List.mem_cons_of_mem _ h)
def mxI (q z : Int × Int) : Int := if absI (z.2 + q.2) > absI (z.1 + q.1) then absI (z.2 + q.2) else absI (z.1 + q.1)
theorem mx_far {q z : Int × Int} (h : mxI q z ≤ 10000) : Far1 (z.1 + q.1, z.2 + q.2) := by
  unfold mxI absI at h
  simp only [Far1]
  split at h <;> split at h <;> split at h <;> omega
theorem move_crowd {ds : List (Int × Int)} {q : Int × Int} (cr : Crowd ds) (h : ∀ z ∈ ds, mxI q z ≤ 10000) : Crowd (moveI ds q) := by
  refine ⟨?_, fun z hz => ?_, by simp [moveI]; exact cr.lo, by simp [moveI]; exact cr.hi⟩
  · unfold moveI
    refine List.Pairwise.map _ (fun a b hab => ?_) cr.nd
    intro e
    simp only [Prod.mk.injEq] at e
    exact hab (Prod.ext (by omega) (by omega))
  · obtain ⟨w, hw, rfl⟩ := List.mem_map.mp hz
    exact mx_far (h w hw)
def ShownS (cal : Cal) (k : Nat) : Prop := ∀ ds, Crowd ds → cal k [crowdD ds] = some (shown (thirdsI ds), [crowdD ds])
def ManyS (cal : Cal) (k : Nat) : Prop := ∀ ds, Crowd ds → cal k [crowdD ds] = some (.int (thirdsI ds).length, [crowdD ds])
def ThirdsS (cal : Cal) (k : Nat) : Prop := ∀ ds : List (Int × Int), ds.length ≤ 30 → cal k [crowdD ds] = some (.lst .own ((thirdsI ds).map lotD), [crowdD ds])
def MovedS (cal : Cal) (k : Nat) : Prop := ∀ ds q, Crowd ds → Far1 q → (∀ z ∈ moveI ds q, Far1 z) → cal k [crowdD ds, dotD q] = some (crowdD (moveI ds q), [crowdD ds, dotD q])
def BagS (cal : Cal) (k : Nat) : Prop := ∀ (ns : List Int) (salt : Int), ns.length ≤ 63 → ∃ b, cal k [.lst .cst (ns.map .int), .int salt] = some (b, [.lst .cst (ns.map .int), .int salt]) ∧ IsBag b
def lwE (sc bag : D) (x2 x3 x4 x5 x6 : Option D) : En := [some sc, some bag, x2, x3, x4, x5, x6, none, none]
theorem lw1 {gl : List (Str × D)} {cal : Cal} {W ks kcr kba : Nat} (hs : SomeS cal ks) (hc : MakeS cal kcr) (hba : BareS cal kba) {sc bag : D} {x2 x3 x4 x5 x6 : Option D} (hb : IsBag bag) :
    ∃ ds bag', evS gl cal W (.asg (.nm 3) (.fc ks (.cons (.lend 1) (.cons (.lst (.cons (.fc kcr (.cons (.lend 1) (.cons (.int 3) (.cons (.int 12) .nil)))) (.cons (.fc kba (.cons (.lend 1) .nil)) .nil))) .nil)))) (lwE sc bag x2 x3 x4 x5 x6) =
      some (.nx (lwE sc bag' x2 (some (crowdD ds)) x4 x5 x6)) ∧ IsBag bag' ∧ Crowd ds := by
  obtain ⟨d1, b1, e1, hb1, cr1, l1, l2⟩ := hc bag 3 12 hb (by omega) (by omega) (by omega)
  obtain ⟨d2, b2, e2, hb2, cr2, l3, l4⟩ := hba b1 hb1
  obtain ⟨d, b3, t3, hd, e3, hb3⟩ := hs b2 [crowdD d1, crowdD d2] hb2 (by simp [frzL, frz_crowd]) (by simp) (by simp)
  have f0 := bag_frz hb
  have f1 := bag_frz hb1
  have f2 := bag_frz hb2
  have cr : ∃ ds, d = crowdD ds ∧ Crowd ds := by
    simp only [List.mem_cons, List.not_mem_nil, or_false] at hd
    rcases hd with rfl | rfl
    · exact ⟨d1, rfl, cr1.nd, cr1.far, by omega, by omega⟩
    · exact ⟨d2, rfl, cr2.nd, cr2.far, by omega, by omega⟩
  obtain ⟨ds, rfl, cr⟩ := cr
  have lst : evE gl cal (.lst (.cons (.fc kcr (.cons (.lend 1) (.cons (.int 3) (.cons (.int 12) .nil)))) (.cons (.fc kba (.cons (.lend 1) .nil)) .nil))) (lwE sc bag x2 x3 x4 x5 x6) = some (.lst .own [crowdD d1, crowdD d2], lwE sc b2 x2 x3 x4 x5 x6) := by
    simp [evE, evA, evF, lendOf, lends, lwE, bor, fillL, giveL, f0, f1, f2, e1, e2, frz, bor_crowd, isP, borL]
  have dr := ev_drawS (gl := gl) (k := ks) (s := 1) (b0 := bag) (ρ := lwE sc bag x2 x3 x4 x5 x6) (by simp [lwE]) lst (by simp [bor, borL, bor_crowd]) (by simp [lwE]) hb2 e3 hb3 (bor_crowd ds) rfl
  refine ⟨ds, b3, ?_, hb3, cr⟩
  rw [evS, dr]
  simp [bindT, bor_crowd, lwE]
theorem lw2 {gl : List (Str × D)} {cal : Cal} {W kth : Nat} (h : ThirdsS cal kth) {sc bag : D} {x2 x4 x5 x6 : Option D} {ds : List (Int × Int)} (cr : Crowd ds) :
    evS gl cal W (.asg (.nm 4) (.fc kth (.cons (.lend 3) .nil))) (lwE sc bag x2 (some (crowdD ds)) x4 x5 x6) = some (.nx (lwE sc bag x2 (some (crowdD ds)) (some (.lst .own ((thirdsI ds).map lotD))) x5 x6)) := by
  have hi := cr.hi
  have e := h ds (by omega)
  have bl := (stillL _ (frz_lots (thirdsI ds))).2.2
  simp [evS, evE, evF, lendOf, lends, lwE, fillL, giveL, frz_crowd, e, bor, bl, bindT]
theorem lw3 {gl : List (Str × D)} {cal : Cal} {W : Nat} {sc bag : D} {x2 x3 x5 x6 : Option D} {T : List (List Int)} :
    evS gl cal W (.asg (.nm 5) (.ife (.cmp .ne (.v .bo 4) (.lst .nil)) (.tup (.cons (.str "three") (.cons (.idx (.v .bo 4) (.int 0)) .nil))) (.tup (.cons (.str "none") .nil)))) (lwE sc bag x2 x3 (some (.lst .own (T.map lotD))) x5 x6) =
      some (.nx (lwE sc bag x2 x3 (some (.lst .own (T.map lotD))) (some (shown T)) x6)) := by
  have lk := (stillL _ (frz_lots T)).2.1
  have c : evE gl cal (.cmp .ne (.v .bo 4) (.lst .nil)) (lwE sc bag x2 x3 (some (.lst .own (T.map lotD))) x5 x6) = some (.bl (!decide (T = [])), lwE sc bag x2 x3 (some (.lst .own (T.map lotD))) x5 x6) := by
    simp [evE, evA, lwE, look, lk, bor, borL, isP, cmp_ne_nil]
  have e : evE gl cal (.ife (.cmp .ne (.v .bo 4) (.lst .nil)) (.tup (.cons (.str "three") (.cons (.idx (.v .bo 4) (.int 0)) .nil))) (.tup (.cons (.str "none") .nil))) (lwE sc bag x2 x3 (some (.lst .own (T.map lotD))) x5 x6) = some (shown T, lwE sc bag x2 x3 (some (.lst .own (T.map lotD))) x5 x6) := by
    cases T with
    | nil =>
      rw [evE, c]
      simp [evE, evA, bor, isP, shown]
    | cons l r =>
      have ix : idxS (.lst .bor ((l :: r).map lotD)) (.int 0) = some (lotD l) := by simp [idxS, L2.atI, L2.ixN]
      have v4 : evE gl cal (.idx (.v .bo 4) (.int 0)) (lwE sc bag x2 x3 (some (.lst .own ((l :: r).map lotD))) x5 x6) = some (lotD l, lwE sc bag x2 x3 (some (.lst .own ((l :: r).map lotD))) x5 x6) := by
        have v : evE gl cal (.v .bo 4) (lwE sc bag x2 x3 (some (.lst .own ((l :: r).map lotD))) x5 x6) = some (.lst .bor ((l :: r).map lotD), lwE sc bag x2 x3 (some (.lst .own ((l :: r).map lotD))) x5 x6) := by
          simp only [evE, lwE, List.getElem?_cons_succ, List.getElem?_cons_zero, look, lk]
        rw [evE, v]
        simp only [evE, ix, isP]
        simp
      have s1 : evE gl cal (.str "three") (lwE sc bag x2 x3 (some (.lst .own ((l :: r).map lotD))) x5 x6) = some (.str "three", lwE sc bag x2 x3 (some (.lst .own ((l :: r).map lotD))) x5 x6) := by rw [evE]
      have a2 : evA gl cal (.cons (.idx (.v .bo 4) (.int 0)) .nil) (lwE sc bag x2 x3 (some (.lst .own ((l :: r).map lotD))) x5 x6) = some ([lotD l], lwE sc bag x2 x3 (some (.lst .own ((l :: r).map lotD))) x5 x6) := by
        rw [evA, v4]
        simp [evA, bor_lot]
      have tp : evE gl cal (.tup (.cons (.str "three") (.cons (.idx (.v .bo 4) (.int 0)) .nil))) (lwE sc bag x2 x3 (some (.lst .own ((l :: r).map lotD))) x5 x6) = some (shown (l :: r), lwE sc bag x2 x3 (some (.lst .own ((l :: r).map lotD))) x5 x6) := by
        rw [evE, evA, s1]
        simp only [a2]
        simp [bor, shown]
      have c' : evE gl cal (.cmp .ne (.v .bo 4) (.lst .nil)) (lwE sc bag x2 x3 (some (.lst .own ((l :: r).map lotD))) x5 x6) = some (.bl true, lwE sc bag x2 x3 (some (.lst .own ((l :: r).map lotD))) x5 x6) := by
        rw [c]
        rfl
      rw [evE, c']
      exact tp
  rw [evS, e]
  simp [bindT, bor_shown, lwE]
end Pur

namespace Pur
open PySem
theorem ev_one {gl : List (Str × D)} {cal : Cal} {k s : Nat} {ρ : En} {d r : D} (h0 : ρ[s]? = some (some d)) (hd : frz d = true) (hc : cal k [d] = some (r, [d])) (hr : bor r = false) : evE gl cal (.fc k (.cons (.lend s) .nil)) ρ = some (r, ρ) := by
  have hL : lendOf (.lend s) = some s := rfl
  rw [evE, evF]
  simp only [hL, h0, evF, lends, fillL, hd, if_true, hc, giveL]
  simp [hr]
theorem ev_cons2 {gl : List (Str × D)} {cal : Cal} {a b : E} {ρ : En} {x y : D} (ha : evE gl cal a ρ = some (x, ρ)) (hb : evE gl cal b ρ = some (y, ρ)) (h1 : bor x = false) (h2 : bor y = false) : evA gl cal (.cons a (.cons b .nil)) ρ = some ([x, y], ρ) := by
  have e : evA gl cal (.cons b .nil) ρ = some ([y], ρ) := by
    rw [evA, hb]
    simp [evA, h2]
  rw [evA, ha]
  simp only [e]
  simp [h1]
/-- the comparison of what is told -/
def lwOr (ksn kmn : Nat) : E := .or_ (.cons (.cmp .ne (.bi .repr (.cons (.lst (.cons (.fc ksn (.cons (.lend 3) .nil)) (.cons (.fc kmn (.cons (.lend 3) .nil)) .nil))) .nil)) (.bi .repr (.cons (.lst (.cons (.v .bo 5) (.cons (.bi .len (.cons (.v .bo 4) .nil)) .nil))) .nil))) (.cons (.and_ (.cons (.cmp .gt (.bi .len (.cons (.v .bo 3) .nil)) (.int 8)) (.cons (.cmp .eq (.v .bo 4) (.lst .nil)) .nil))) .nil))
theorem lw4 {gl : List (Str × D)} {cal : Cal} {ksn kmn : Nat} (hs : ShownS cal ksn) (hm : ManyS cal kmn) {ds : List (Int × Int)} (cr : Crowd ds) {ρ : En} (h3 : ρ[3]? = some (some (crowdD ds))) (h4 : ρ[4]? = some (some (.lst .own ((thirdsI ds).map lotD)))) (h5 : ρ[5]? = some (some (shown (thirdsI ds)))) :
    evE gl cal (lwOr ksn kmn) ρ = some (.bl false, ρ) := by
  have hi := cr.hi
  have bl := (stillL _ (frz_lots (thirdsI ds))).2.2
  have lk := (stillL _ (frz_lots (thirdsI ds))).2.1
  have rp := shown_ok (ds := ds) (by omega)
  have pd := shown_pd (thirdsI ds) (thirdsI ds).length
  have a1 := ev_one (gl := gl) h3 (frz_crowd ds).1 (hs ds cr) (bor_shown _)
  have a2 := ev_one (gl := gl) h3 (frz_crowd ds).1 (hm ds cr) rfl
  have v4 : evE gl cal (.v .bo 4) ρ = some (.lst .bor ((thirdsI ds).map lotD), ρ) := by simp [evE, h4, look, lk]
  have v5 : evE gl cal (.v .bo 5) ρ = some (shown (thirdsI ds), ρ) := by simp [evE, h5, look_shown]
  have len4 : evE gl cal (.bi .len (.cons (.v .bo 4) .nil)) ρ = some (.int (thirdsI ds).length, ρ) := by
    rw [evE, evA, v4]
    simp [evA, isP, biS, lenS]
  have two : ∀ a b : E, evE gl cal a ρ = some (shown (thirdsI ds), ρ) → evE gl cal b ρ = some (.int (thirdsI ds).length, ρ) → evE gl cal (.bi .repr (.cons (.lst (.cons a (.cons b .nil))) .nil)) ρ = some (.rs (py (.lst .own [shown (thirdsI ds), .int (thirdsI ds).length])), ρ) := by
    intro a b ha hb
    have l : evE gl cal (.lst (.cons a (.cons b .nil))) ρ = some (.lst .own [shown (thirdsI ds), .int (thirdsI ds).length], ρ) := by
      rw [evE, ev_cons2 ha hb (bor_shown _) rfl]
      simp [borL, bor_shown, bor]
    rw [evE, evA, l]
    simp [evA, bor, borL, bor_shown, biS, rp]
  have r1 := two _ _ a1 a2
  have r2 := two _ _ v5 len4
  have c1 : evE gl cal (.cmp .ne (.bi .repr (.cons (.lst (.cons (.fc ksn (.cons (.lend 3) .nil)) (.cons (.fc kmn (.cons (.lend 3) .nil)) .nil))) .nil)) (.bi .repr (.cons (.lst (.cons (.v .bo 5) (.cons (.bi .len (.cons (.v .bo 4) .nil)) .nil))) .nil))) ρ = some (.bl false, ρ) := by
    rw [evE, r1]
    simp only [r2]
    simp [bor, cmpS, eqS, pd]
  have c2 : evE gl cal (.and_ (.cons (.cmp .gt (.bi .len (.cons (.v .bo 3) .nil)) (.int 8)) (.cons (.cmp .eq (.v .bo 4) (.lst .nil)) .nil))) ρ = some (.bl false, ρ) := by
    have g : evE gl cal (.cmp .gt (.bi .len (.cons (.v .bo 3) .nil)) (.int 8)) ρ = some (.bl (decide (8 < (ds.length : Int))), ρ) := by
      rw [evE, len_crowd h3]
      simp [evE, bor, cmpS]
    have e : evE gl cal (.cmp .eq (.v .bo 4) (.lst .nil)) ρ = some (.bl (decide (thirdsI ds = [])), ρ) := by
      rw [evE, v4]
      simp [evE, evA, isP, borL, cmp_eq_nil]
    have hA : ∀ b c : E, evAnd gl cal (.cons b (.cons c .nil)) ρ = match evE gl cal b ρ with
        | some (.bl true, ρ1) => evAnd gl cal (.cons c .nil) ρ1
        | some (.bl false, ρ1) => some (.bl false, ρ1)
        | _ => none := fun b c => by rw [evAnd]; simp only [isNil]; try rfl
    rw [evE, hA, g]
    by_cases h : (8 : Int) < ds.length
    · rw [decide_eq_true h]
      have ne : thirdsI ds ≠ [] := nine_hold (by omega)
      rw [decide_eq_false ne] at e
      simp only [evAnd, isNil, e]
    · rw [decide_eq_false h]
  unfold lwOr
  have hO : ∀ b c : E, evOr gl cal (.cons b (.cons c .nil)) ρ = match evE gl cal b ρ with
      | some (.bl false, ρ1) => evOr gl cal (.cons c .nil) ρ1
      | some (.bl true, ρ1) => some (.bl true, ρ1)
      | _ => none := fun b c => by rw [evOr]; simp only [isNil]; try rfl
  rw [evE, hO, c1]
  simp only [evOr, isNil, c2]
/-- moved -/
def lwMx : E := .bi .max (.cons (.lc (.bi .max (.cons (.bi .abs (.cons (.bin .add (.v .bo 7) (.idx (.v .bo 6) (.int 0))) .nil)) (.cons (.bi .abs (.cons (.bin .add (.v .bo 8) (.idx (.v .bo 6) (.int 1))) .nil)) .nil))) (.tp (.cons (.nm 7) (.cons (.nm 8) .nil))) (.v .bo 3) (.bl true) [7, 8]) .nil)
theorem lw_mx {gl : List (Str × D)} {cal : Cal} {ds : List (Int × Int)} (hl : 1 ≤ ds.length) (hn : ds.length ≤ 1000) {q : Int × Int} {ρ : En} (h3 : ρ[3]? = some (some (crowdD ds))) (h6 : ρ[6]? = some (some (dotD q))) (h7 : ρ[7]? = some none) (h8 : ρ[8]? = some none) :
    ∃ m, evE gl cal lwMx ρ = some (.int m, ρ) ∧ ∀ z ∈ ds, mxI q z ≤ m := by
  have it : evI gl cal (.v .bo 3) ρ = some (ds.map dotD, crowdD ds, ρ) := by
    have e : itOf (.v .bo 3) (crowdD ds) = some (ds.map dotD, crowdD ds) := by simp [itOf, crowdD, seqOf, frz_dots]
    unfold evI
    rw [evE]
    simp only [h3, look_crowd, e]
  have l7 := (List.getElem?_eq_some_iff.mp h7).1
  have l8 := (List.getElem?_eq_some_iff.mp h8).1
  have lc := ev_map2 (gl := gl) (cal := cal) (elt := .bi .max (.cons (.bi .abs (.cons (.bin .add (.v .bo 7) (.idx (.v .bo 6) (.int 0))) .nil)) (.cons (.bi .abs (.cons (.bin .add (.v .bo 8) (.idx (.v .bo 6) (.int 1))) .nil)) .nil))) (p := 7) (p' := 8) (g := fun z => .int (mxI q z)) it (by simp [bor_crowd]) (by omega) h7 h8 (by decide) (fun z _ => by
    refine ⟨?_, rfl⟩
    generalize hr : (ρ.set 7 (some (.int z.1))).set 8 (some (.int z.2)) = ρ'
    have g7 : ρ'[7]? = some (some (.int z.1)) := by rw [← hr, List.getElem?_set_ne (by decide), List.getElem?_set_self l7]
    have g8 : ρ'[8]? = some (some (.int z.2)) := by rw [← hr, List.getElem?_set_self (by rw [List.length_set]; exact l8)]
    have g6 : ρ'[6]? = some (some (dotD q)) := by rw [← hr, List.getElem?_set_ne (by decide), List.getElem?_set_ne (by decide)]; exact h6
    have e1 : evE gl cal (.bi .abs (.cons (.bin .add (.v .bo 7) (.idx (.v .bo 6) (.int 0))) .nil)) ρ' = some (.int (absI (z.1 + q.1)), ρ') := by
      simp [evE, evA, g7, g6, look, look_dot, bor, bor_dot, isP, at_dot, binS, addS, biS, absS, absI]
    have e2 : evE gl cal (.bi .abs (.cons (.bin .add (.v .bo 8) (.idx (.v .bo 6) (.int 1))) .nil)) ρ' = some (.int (absI (z.2 + q.2)), ρ') := by
      simp [evE, evA, g8, g6, look, look_dot, bor, bor_dot, isP, at_dot, binS, addS, biS, absS, absI]
    rw [evE, ev_cons2 e1 e2 rfl rfl]
    simp only [biS, maxS, mxI, Option.map_some])
  have mp : ds.map (fun z => D.int (mxI q z)) = (ds.map (mxI q)).map .int := by rw [List.map_map]; rfl
  rw [mp] at lc
  have bl : borL ((ds.map (mxI q)).map D.int) = false := bor_ints _
  cases hd : ds.map (mxI q) with
  | nil =>
    rw [List.map_eq_nil_iff.mp hd] at hl
    simp at hl
  | cons n ns =>
    rw [hd] at lc bl
    refine ⟨maxL n ns, ?_, fun z hz => maxL_all ns n _ (by rw [← hd]; exact List.mem_map.mpr ⟨z, hz, rfl⟩)⟩
    have io : intsOf ((n :: ns).map D.int) = some (n :: ns) := intsOf_ints _
    have mx : maxS [.lst .own ((n :: ns).map D.int)] = some (.int (maxL n ns)) := by simp only [maxS, io]
    have a : evA gl cal (.cons (.lc (.bi .max (.cons (.bi .abs (.cons (.bin .add (.v .bo 7) (.idx (.v .bo 6) (.int 0))) .nil)) (.cons (.bi .abs (.cons (.bin .add (.v .bo 8) (.idx (.v .bo 6) (.int 1))) .nil)) .nil))) (.tp (.cons (.nm 7) (.cons (.nm 8) .nil))) (.v .bo 3) (.bl true) [7, 8]) .nil) ρ = some ([.lst .own ((n :: ns).map D.int)], ρ) := by
      rw [evA, lc]
      simp only [evA, bor, bl]
      rfl
    unfold lwMx
    rw [evE, a]
    simp only [biS, mx]
    rfl
def lwMv (km kmn : Nat) : S := .ifs (.cmp .le lwMx (.int 10000)) (.cons (.ifs (.cmp .ne (.fc kmn (.cons (.fc km (.cons (.lend 3) (.cons (.lend 6) .nil))) .nil)) (.bi .len (.cons (.v .bo 4) .nil))) (.cons (.ret (.bl false)) .nil) .nil) .nil) .nil
theorem lw6 {gl : List (Str × D)} {cal : Cal} {W km kmn : Nat} (hv : MovedS cal km) (hm : ManyS cal kmn) {ds : List (Int × Int)} (cr : Crowd ds) {q : Int × Int} (hq : Far1 q) {ρ : En} (h3 : ρ[3]? = some (some (crowdD ds))) (h4 : ρ[4]? = some (some (.lst .own ((thirdsI ds).map lotD)))) (h6 : ρ[6]? = some (some (dotD q))) (h7 : ρ[7]? = some none) (h8 : ρ[8]? = some none) :
    evS gl cal W (lwMv km kmn) ρ = some (.nx ρ) := by
  have hi := cr.hi
  have lo := cr.lo
  obtain ⟨m, em, hmx⟩ := lw_mx (gl := gl) (cal := cal) (ds := ds) (by omega) (by omega) h3 h6 h7 h8
  have lk := (stillL _ (frz_lots (thirdsI ds))).2.1
  have v4 : evE gl cal (.v .bo 4) ρ = some (.lst .bor ((thirdsI ds).map lotD), ρ) := by simp [evE, h4, look, lk]
  have len4 : evE gl cal (.bi .len (.cons (.v .bo 4) .nil)) ρ = some (.int (thirdsI ds).length, ρ) := by
    rw [evE, evA, v4]
    simp [evA, isP, biS, lenS]
  have c : evE gl cal (.cmp .le lwMx (.int 10000)) ρ = some (.bl (decide (m ≤ 10000)), ρ) := by
    rw [evE, em]
    simp [evE, bor, cmpS]
  unfold lwMv
  rw [evS, c]
  by_cases h : m ≤ 10000
  · rw [decide_eq_true h]
    have cm := move_crowd (q := q) cr fun z hz => Int.le_trans (hmx z hz) h
    have mv := hv ds q cr hq cm.far
    have mn := hm _ cm
    rw [third_move] at mn
    have e1 : evE gl cal (.fc km (.cons (.lend 3) (.cons (.lend 6) .nil))) ρ = some (crowdD (moveI ds q), ρ) := by
      simp [evE, evF, lendOf, lends, h3, h6, fillL, giveL, frz_crowd, frz_dot, mv, bor_crowd]
    have e2 : evE gl cal (.fc kmn (.cons (.fc km (.cons (.lend 3) (.cons (.lend 6) .nil))) .nil)) ρ = some (.int (thirdsI ds).length, ρ) := by
      have hL : lendOf (.fc km (.cons (.lend 3) (.cons (.lend 6) .nil))) = none := rfl
      rw [evE, evF]
      simp only [hL, e1]
      simp [evF, bor_crowd, lends, hL, fillL, giveL, mn, bor]
    have c2 : evE gl cal (.cmp .ne (.fc kmn (.cons (.fc km (.cons (.lend 3) (.cons (.lend 6) .nil))) .nil)) (.bi .len (.cons (.v .bo 4) .nil))) ρ = some (.bl false, ρ) := by
      rw [evE, e2]
      simp only [len4, bor, cmp_ne_int]
      simp
    have s : evS gl cal W (.ifs (.cmp .ne (.fc kmn (.cons (.fc km (.cons (.lend 3) (.cons (.lend 6) .nil))) .nil)) (.bi .len (.cons (.v .bo 4) .nil))) (.cons (.ret (.bl false)) .nil) .nil) ρ = some (.nx ρ) := by
      rw [evS, c2]
      simp only [evS]
    simp only
    rw [ev_cons s, evS]
  · rw [decide_eq_false h]
    simp only [evS]
end Pur

namespace Pur
open PySem
def lwBd (km ksn kmn ks kd kcr kth kba : Nat) : S := .cons (.asg (.nm 3) (.fc ks (.cons (.lend 1) (.cons (.lst (.cons (.fc kcr (.cons (.lend 1) (.cons (.int 3) (.cons (.int 12) .nil)))) (.cons (.fc kba (.cons (.lend 1) .nil)) .nil))) .nil)))) (.cons (.asg (.nm 4) (.fc kth (.cons (.lend 3) .nil))) (.cons (.asg (.nm 5) (.ife (.cmp .ne (.v .bo 4) (.lst .nil)) (.tup (.cons (.str "three") (.cons (.idx (.v .bo 4) (.int 0)) .nil))) (.tup (.cons (.str "none") .nil)))) (.cons (.ifs (lwOr ksn kmn) (.cons (.ret (.bl false)) .nil) .nil) (.cons (.asg (.nm 6) (.fc kd (.cons (.lend 1) (.cons (.int 20) .nil)))) (.cons (lwMv km kmn) .nil)))))
theorem lw_step {p : Pg} {cal : Cal} {W km ksn kmn ks kd kcr kth kba : Nat} (hv : MovedS cal km) (hsn : ShownS cal ksn) (hmn : ManyS cal kmn) (hs : SomeS cal ks) (hd : DotS cal kd) (hc : MakeS cal kcr) (hth : ThirdsS cal kth) (hba : BareS cal kba) {sc bag : D} {x2 x3 x4 x5 x6 : Option D} (hb : IsBag bag) :
    ∃ bag' x3' x4' x5' x6', evS p.gs cal W (lwBd km ksn kmn ks kd kcr kth kba) (lwE sc bag x2 x3 x4 x5 x6) = some (.nx (lwE sc bag' x2 x3' x4' x5' x6')) ∧ IsBag bag' := by
  obtain ⟨ds, b1, h1, hb1, cr⟩ := lw1 (gl := p.gs) (W := W) hs hc hba (sc := sc) (x2 := x2) (x3 := x3) (x4 := x4) (x5 := x5) (x6 := x6) hb
  have h2 := lw2 (gl := p.gs) (W := W) hth (sc := sc) (bag := b1) (x2 := x2) (x4 := x4) (x5 := x5) (x6 := x6) cr
  have h3 := lw3 (gl := p.gs) (cal := cal) (W := W) (sc := sc) (bag := b1) (x2 := x2) (x3 := some (crowdD ds)) (x5 := x5) (x6 := x6) (T := thirdsI ds)
  have c4 := lw4 (gl := p.gs) hsn hmn cr (ρ := lwE sc b1 x2 (some (crowdD ds)) (some (.lst .own ((thirdsI ds).map lotD))) (some (shown (thirdsI ds))) x6) rfl rfl rfl
  have h4 : evS p.gs cal W (.ifs (lwOr ksn kmn) (.cons (.ret (.bl false)) .nil) .nil) (lwE sc b1 x2 (some (crowdD ds)) (some (.lst .own ((thirdsI ds).map lotD))) (some (shown (thirdsI ds))) x6) = some (.nx (lwE sc b1 x2 (some (crowdD ds)) (some (.lst .own ((thirdsI ds).map lotD))) (some (shown (thirdsI ds))) x6)) := by
    rw [evS, c4]
    simp only [evS]
  obtain ⟨q, b2, e5, hb2, q1, q2, q3, q4⟩ := hd b1 20 hb1 (by omega) (by omega)
  have d5 := ev_drawS (gl := p.gs) (k := kd) (s := 1) (e := .int 20) (b0 := b1) (ρ := lwE sc b1 x2 (some (crowdD ds)) (some (.lst .own ((thirdsI ds).map lotD))) (some (shown (thirdsI ds))) x6) rfl (by rw [evE]) rfl rfl hb1 e5 hb2 (bor_dot q) rfl
  have h5 : evS p.gs cal W (.asg (.nm 6) (.fc kd (.cons (.lend 1) (.cons (.int 20) .nil)))) (lwE sc b1 x2 (some (crowdD ds)) (some (.lst .own ((thirdsI ds).map lotD))) (some (shown (thirdsI ds))) x6) = some (.nx (lwE sc b2 x2 (some (crowdD ds)) (some (.lst .own ((thirdsI ds).map lotD))) (some (shown (thirdsI ds))) (some (dotD q)))) := by
    rw [evS, d5]
    simp [bindT, bor_dot, lwE]
  have h6 := lw6 (gl := p.gs) (W := W) hv hmn cr (q := q) ⟨by omega, by omega, by omega, by omega⟩ (ρ := lwE sc b2 x2 (some (crowdD ds)) (some (.lst .own ((thirdsI ds).map lotD))) (some (shown (thirdsI ds))) (some (dotD q))) rfl rfl rfl rfl rfl
  refine ⟨b2, some (crowdD ds), some (.lst .own ((thirdsI ds).map lotD)), some (shown (thirdsI ds)), some (dotD q), ?_, hb2⟩
  unfold lwBd
  rw [ev_cons h1, ev_cons h2, ev_cons h3, ev_cons h4, ev_cons h5, ev_cons h6, evS]
def c3a : List (Int × Int) := [(0, 0), (1, 1), (-1, -1)]
def c3b : List (Int × Int) := [(0, 0), (0, 1), (1, 0)]
theorem t3a : thirdsI c3a = [[0, 1, 2]] := by decide +kernel
theorem t3b : thirdsI c3b = [] := by decide +kernel
theorem cr3a : Crowd c3a := by
  refine ⟨by decide, fun q hq => ?_, by decide, by decide⟩
  simp only [c3a, List.mem_cons, List.not_mem_nil, or_false] at hq
  rcases hq with rfl | rfl | rfl <;> (unfold Far1; decide)
theorem cr3b : Crowd c3b := by
  refine ⟨by decide, fun q hq => ?_, by decide, by decide⟩
  simp only [c3b, List.mem_cons, List.not_mem_nil, or_false] at hq
  rcases hq with rfl | rfl | rfl <;> (unfold Far1; decide)
theorem ne3a : eqS (shown [[0, 1, 2]]) (.tup [.str "three", .tup [.int 0, .int 1, .int 2]]) = some true := by decide +kernel
theorem ne3b : eqS (shown []) (.tup [.str "none"]) = some true := by decide +kernel
theorem law_fn {p : Pg} {cal : Cal} {W km ksn kmn kb ks kd kcr kth kba : Nat} (hv : MovedS cal km) (hsn : ShownS cal ksn) (hmn : ManyS cal kmn) (hbg : BagS cal kb) (hs : SomeS cal ks) (hd : DotS cal kd) (hc : MakeS cal kcr) (hth : ThirdsS cal kth) (hba : BareS cal kba) {ns : List Int} (hn : ns.length ≤ 63) :
    ∃ fin, runF p W cal ⟨"law", 1, n_law, b_law km ksn kmn kb ks kd kcr kth kba⟩ [.lst .cst (ns.map .int)] = some (.bl true, fin) := by
  obtain ⟨b1, e1, hb1⟩ := hbg ns 66171 hn
  have fi := frz_ints ns
  have bi := bor_ints ns
  have f1 := bag_frz hb1
  let sc : D := .lst .cst (ns.map .int)
  have fsc : frz sc = true := by simp [sc, frz, Fl.still, fi]
  have h1 : evS p.gs cal W (.asg (.nm 1) (.fc kb (.cons (.lend 0) (.cons (.int 66171) .nil)))) [some sc, none, none, none, none, none, none, none, none] = some (.nx (lwE sc b1 none none none none none)) := by
    have e1' : cal kb [sc, .int 66171] = some (b1, [sc, .int 66171]) := e1
    simp [evS, evE, evF, lendOf, lends, fillL, giveL, fsc, e1', bor, f1, bindT, lwE]
  have sa := hsn c3a cr3a
  rw [t3a] at sa
  have sb := hsn c3b cr3b
  rw [t3b] at sb
  have h2 : evS p.gs cal W (.ifs (.cmp .ne (.fc ksn (.cons (.tup (.cons (.tup (.cons (.int 0) (.cons (.int 0) .nil))) (.cons (.tup (.cons (.int 1) (.cons (.int 1) .nil))) (.cons (.tup (.cons (.neg (.int 1)) (.cons (.neg (.int 1)) .nil))) .nil)))) .nil)) (.tup (.cons (.str "three") (.cons (.tup (.cons (.int 0) (.cons (.int 1) (.cons (.int 2) .nil)))) .nil)))) (.cons (.ret (.bl false)) .nil) .nil) (lwE sc b1 none none none none none) = some (.nx (lwE sc b1 none none none none none)) := by
    have sa' : cal ksn [.tup [.tup [.int 0, .int 0], .tup [.int 1, .int 1], .tup [.int (-1), .int (-1)]]] = some (shown [[0, 1, 2]], [.tup [.tup [.int 0, .int 0], .tup [.int 1, .int 1], .tup [.int (-1), .int (-1)]]]) := sa
    simp [evS, evE, evF, evA, lendOf, lends, fillL, giveL, bor, borL, isP, sa', bor_shown, cmpS, ne3a]
  have h3 : evS p.gs cal W (.ifs (.cmp .ne (.fc ksn (.cons (.tup (.cons (.tup (.cons (.int 0) (.cons (.int 0) .nil))) (.cons (.tup (.cons (.int 0) (.cons (.int 1) .nil))) (.cons (.tup (.cons (.int 1) (.cons (.int 0) .nil))) .nil)))) .nil)) (.tup (.cons (.str "none") .nil))) (.cons (.ret (.bl false)) .nil) .nil) (lwE sc b1 none none none none none) = some (.nx (lwE sc b1 none none none none none)) := by
    have sb' : cal ksn [.tup [.tup [.int 0, .int 0], .tup [.int 0, .int 1], .tup [.int 1, .int 0]]] = some (shown [], [.tup [.tup [.int 0, .int 0], .tup [.int 0, .int 1], .tup [.int 1, .int 0]]]) := sb
    simp [evS, evE, evF, evA, lendOf, lends, fillL, giveL, bor, borL, isP, sb', bor_shown, cmpS, ne3b]
  let I : List D → En → Prop := fun items ρ => ∃ bag x2 x3 x4 x5 x6, ρ = lwE sc bag x2 x3 x4 x5 x6 ∧ IsBag bag ∧ ∀ x ∈ items, bor x = false
  obtain ⟨ρ', e4, bag, x2, x3, x4, x5, x6, rfl, hb4, _⟩ := forL_inv (wp := []) (t := .nm 2) (f := evS p.gs cal W (lwBd km ksn kmn ks kd kcr kth kba)) I (items := rangeD 0 9) (ρ := lwE sc b1 none none none none none)
    ⟨b1, none, none, none, none, none, rfl, hb1, fun x hx => by obtain ⟨k, _, rfl⟩ := rangeD_mem hx; rfl⟩ (by
      rintro x xs ρ ⟨bag, x2, x3, x4, x5, x6, rfl, hb4, hx⟩
      obtain ⟨bag', x3', x4', x5', x6', e, hb'⟩ := lw_step (p := p) (W := W) hv hsn hmn hs hd hc hth hba (sc := sc) (x2 := some x) (x3 := x3) (x4 := x4) (x5 := x5) (x6 := x6) hb4
      exact ⟨_, _, by simp [bindT, lwE, hx x List.mem_cons_self], .inl e, bag', some x, x3', x4', x5', x6', rfl, hb', fun y hy => hx y (List.mem_cons_of_mem _ hy)⟩)
  have itl := ev_rngI (gl := p.gs) (cal := cal) (a := .int 9) (n := 9) (ρ := lwE sc b1 none none none none none) (ρ1 := lwE sc b1 none none none none none) (by rw [evE]; rfl) (by omega)
  have h4 := (ev_for (gl := p.gs) (cal := cal) (W := W) (it := .rng (.int 9)) (t := .nm 2) (b := lwBd km ksn kmn ks kd kcr kth kba) (wp := []) itl rfl).trans e4
  have body : evS p.gs cal W (b_law km ksn kmn kb ks kd kcr kth kba) [some sc, none, none, none, none, none, none, none, none] = some (.rt (.bl true) (lwE sc bag x2 x3 x4 x5 x6)) := by
    show evS p.gs cal W (.cons _ (.cons _ (.cons _ (.cons (.for_ (.nm 2) (.rng (.int 9)) (lwBd km ksn kmn ks kd kcr kth kba) []) (.cons (.ret (.bl true)) .nil))))) _ = _
    rw [ev_cons h1, ev_cons h2, ev_cons h3, ev_cons h4, ev_cons_rt (ev_ret (d := .bl true) (by rw [evE]) rfl)]
  refine ⟨[sc], ?_⟩
  have bsc : bor sc = false := by simp [sc, bor, bi]
  show runF p W cal _ [sc] = _
  unfold runF
  simp [n_law, borL, bsc, body, finL, fsc]
end Pur

namespace Pur
open PySem
def b_raw_area : S :=
  (.cons (.ret (.bin .sub (.bin .mul (.bin .sub (.idx (.v .bo 1) (.int 0)) (.idx (.v .bo 0) (.int 0))) (.bin .sub (.idx (.v .bo 2) (.int 1)) (.idx (.v .bo 0) (.int 1)))) (.bin .mul (.bin .sub (.idx (.v .bo 1) (.int 1)) (.idx (.v .bo 0) (.int 1))) (.bin .sub (.idx (.v .bo 2) (.int 0)) (.idx (.v .bo 0) (.int 0)))))) .nil)
def n_raw_area : List Str := ["a", "b", "c"]
def b_mirrored (f_check_crowd : Nat) : S :=
  (.cons (.ex (.fc f_check_crowd (.cons (.lend 0) .nil))) (.cons (.ret (.bi .tuple (.cons (.lc (.tup (.cons (.neg (.v .bo 1)) (.cons (.v .bo 2) .nil))) (.tp (.cons (.nm 1) (.cons (.nm 2) .nil))) (.v .bo 0) (.bl true) [1, 2]) .nil))) .nil))
def n_mirrored : List Str := ["crowd", "x", "y"]
def b_all_sizes (f_raw_area : Nat) (f_lots_of : Nat) : S :=
  (.cons (.ret (.lc (.tup (.cons (.bi .abs (.cons (.fc f_raw_area (.cons (.idx (.v .bo 0) (.v .bo 1)) (.cons (.idx (.v .bo 0) (.v .bo 2)) (.cons (.idx (.v .bo 0) (.v .bo 3)) .nil)))) .nil)) (.cons (.tup (.cons (.v .bo 1) (.cons (.v .bo 2) (.cons (.v .bo 3) .nil)))) .nil))) (.tp (.cons (.nm 1) (.cons (.nm 2) (.cons (.nm 3) .nil)))) (.fc f_lots_of (.cons (.bi .len (.cons (.v .bo 0) .nil)) (.cons (.int 3) .nil))) (.bl true) [1, 2, 3])) .nil)
def n_all_sizes : List Str := ["crowd", "i", "j", "k"]
def b_triangle_sizes (f_check_crowd : Nat) (f_all_sizes : Nat) : S :=
  (.cons (.ex (.fc f_check_crowd (.cons (.lend 0) .nil))) (.cons (.asg (.nm 1) (.lc (.v .bo 2) (.tp (.cons (.nm 2) (.cons (.nm 3) .nil))) (.fc f_all_sizes (.cons (.lend 0) .nil)) (.bl true) [2, 3])) (.cons (.ret (.bi .tuple (.cons (.lc (.tup (.cons (.v .bo 2) (.cons (.meth .count (.v .bo 1) (.v .bo 2)) .nil))) (.nm 2) (.usort (.v .bo 4) (.nm 4) (.v .bo 1) [4]) (.bl true) [2]) .nil))) .nil)))
def n_triangle_sizes : List Str := ["crowd", "some", "size", "lot", "one"]
def b_even_many (f_check_crowd : Nat) (f_all_sizes : Nat) : S :=
  (.cons (.ex (.fc f_check_crowd (.cons (.lend 0) .nil))) (.cons (.ret (.bi .len (.cons (.lc (.v .bo 1) (.tp (.cons (.nm 1) (.cons (.nm 2) .nil))) (.fc f_all_sizes (.cons (.lend 0) .nil)) (.cmp .eq (.bin .mod (.v .bo 1) (.int 2)) (.int 0)) [1, 2]) .nil))) .nil))
def n_even_many : List Str := ["crowd", "size", "lot"]
def b_even_by_kinds (f_check_crowd : Nat) (f_lots_of : Nat) : S :=
  (.cons (.ex (.fc f_check_crowd (.cons (.lend 0) .nil))) (.cons (.asg (.nm 1) (.lc (.tup (.cons (.bin .mod (.v .bo 2) (.int 2)) (.cons (.bin .mod (.v .bo 3) (.int 2)) .nil))) (.tp (.cons (.nm 2) (.cons (.nm 3) .nil))) (.v .bo 0) (.bl true) [2, 3])) (.cons (.ret (.bi .len (.cons (.lc (.int 1) (.tp (.cons (.nm 4) (.cons (.nm 5) (.cons (.nm 6) .nil)))) (.fc f_lots_of (.cons (.bi .len (.cons (.v .bo 0) .nil)) (.cons (.int 3) .nil))) (.cmp .lt (.uniq (.idx (.v .bo 1) (.v .bo 7)) (.nm 7) (.tup (.cons (.v .bo 4) (.cons (.v .bo 5) (.cons (.v .bo 6) .nil)))) [7]) (.int 3)) [4, 5, 6]) .nil))) .nil)))
def n_even_by_kinds : List Str := ["crowd", "kinds", "x", "y", "i", "j", "k", "place"]
def b_law_k31 (f_moved : Nat) (f_mirrored : Nat) (f_triangle_sizes : Nat) (f_even_many : Nat) (f_even_by_kinds : Nat) (f_law_bag : Nat) (f_law_pick : Nat) (f_law_area : Nat) (f_law_dot : Nat) (f_law_lots : Nat) (f_law_crowd : Nat) : S :=
  (.cons (.asg (.nm 1) (.fc f_law_bag (.cons (.lend 0) (.cons (.int 49311) .nil)))) (.cons (.asg (.nm 2) (.tup (.cons (.tup (.cons (.int 0) (.cons (.int 0) .nil))) (.cons (.tup (.cons (.int 1) (.cons (.int 0) .nil))) (.cons (.tup (.cons (.int 0) (.cons (.int 1) .nil))) (.cons (.tup (.cons (.int 1) (.cons (.int 1) .nil))) .nil)))))) (.cons (.ifs (.or_ (.cons (.cmp .ne (.lst (.cons (.fc f_even_many (.cons (.lend 2) .nil)) (.cons (.fc f_even_by_kinds (.cons (.lend 2) .nil)) .nil))) (.lst (.cons (.int 0) (.cons (.int 0) .nil)))) (.cons (.cmp .ne (.fc f_even_many (.cons (.tup (.cons (.tup (.cons (.int 0) (.cons (.int 0) .nil))) (.cons (.tup (.cons (.int 2) (.cons (.int 0) .nil))) (.cons (.tup (.cons (.int 0) (.cons (.neg (.int 1)) .nil))) .nil)))) .nil)) (.int 1)) .nil))) (.cons (.ret (.bl false)) .nil) .nil) (.cons (.for_ (.nm 3) (.rng (.int 10)) (.cons (.asg (.nm 2) (.fc f_law_crowd (.cons (.lend 1) (.cons (.int 3) (.cons (.int 12) .nil))))) (.cons (.asg (.nm 4) (.fc f_law_lots (.cons (.bi .len (.cons (.v .bo 2) .nil)) (.cons (.int 3) .nil)))) (.cons (.asg (.nm 5) (.bi .len (.cons (.lc (.int 1) (.tp (.cons (.nm 10) (.cons (.nm 11) (.cons (.nm 12) .nil)))) (.v .bo 4) (.cmp .eq (.bin .mod (.bi .int (.cons (.fc f_law_area (.cons (.idx (.v .bo 2) (.v .bo 10)) (.cons (.idx (.v .bo 2) (.v .bo 11)) (.cons (.idx (.v .bo 2) (.v .bo 12)) .nil)))) .nil)) (.int 2)) (.int 0)) [10, 11, 12]) .nil))) (.cons (.ifs (.or_ (.cons (.cmp .ne (.bi .repr (.cons (.lst (.cons (.fc f_even_many (.cons (.lend 2) .nil)) (.cons (.fc f_even_by_kinds (.cons (.lend 2) .nil)) .nil))) .nil)) (.bi .repr (.cons (.lst (.cons (.v .bo 5) (.cons (.v .bo 5) .nil))) .nil))) (.cons (.and_ (.cons (.cmp .gt (.bi .len (.cons (.v .bo 2) .nil)) (.int 4)) (.cons (.cmp .eq (.v .bo 5) (.int 0)) .nil))) .nil))) (.cons (.ret (.bl false)) .nil) .nil) (.cons (.asg (.tp (.cons (.nm 8) (.cons (.nm 9) .nil))) (.tup (.cons (.bin .sub (.fc f_law_pick (.cons (.lend 1) (.cons (.int 7) .nil))) (.int 3)) (.cons (.fc f_law_dot (.cons (.lend 1) (.cons (.int 30) .nil))) .nil)))) (.cons (.asg (.nm 6) (.lst (.cons (.fc f_mirrored (.cons (.lend 2) .nil)) (.cons (.bi .tuple (.cons (.lc (.tup (.cons (.v .bo 13) (.cons (.bin .add (.v .bo 14) (.bin .mul (.v .bo 8) (.v .bo 13))) .nil))) (.tp (.cons (.nm 13) (.cons (.nm 14) .nil))) (.v .bo 2) (.bl true) [13, 14]) .nil)) .nil)))) (.cons (.ifs (.cmp .le (.bi .max (.cons (.lc (.bi .max (.cons (.bi .abs (.cons (.bin .add (.v .bo 13) (.idx (.v .bo 9) (.int 0))) .nil)) (.cons (.bi .abs (.cons (.bin .add (.v .bo 14) (.idx (.v .bo 9) (.int 1))) .nil)) .nil))) (.tp (.cons (.nm 13) (.cons (.nm 14) .nil))) (.v .bo 2) (.bl true) [13, 14]) .nil)) (.int 10000)) (.cons (.app 6 (.fc f_moved (.cons (.lend 2) (.cons (.lend 9) .nil)))) .nil) .nil) (.cons (.for_ (.nm 7) (.v .fz 6) (.cons (.ifs (.cmp .le (.bi .max (.cons (.lc (.bi .max (.cons (.bi .abs (.cons (.v .bo 13) .nil)) (.cons (.bi .abs (.cons (.v .bo 14) .nil)) .nil))) (.tp (.cons (.nm 13) (.cons (.nm 14) .nil))) (.v .bo 7) (.bl true) [13, 14]) .nil)) (.int 10000)) (.cons (.ifs (.cmp .ne (.lst (.cons (.fc f_even_many (.cons (.lend 7) .nil)) (.cons (.fc f_even_by_kinds (.cons (.lend 7) .nil)) (.cons (.fc f_triangle_sizes (.cons (.lend 7) .nil)) .nil)))) (.lst (.cons (.v .bo 5) (.cons (.v .bo 5) (.cons (.fc f_triangle_sizes (.cons (.lend 2) .nil)) .nil))))) (.cons (.ret (.bl false)) .nil) .nil) .nil) .nil) .nil) []) .nil)))))))) []) (.cons (.ret (.bl true)) .nil)))))
def n_law_k31 : List Str := ["script", "bag", "crowd", "turn", "lots", "due", "some", "other", "shear", "by", "i", "j", "k", "x", "y"]
end Pur

namespace Pur
open PySem
/-! k31: the mathematics -/
theorem area_shear (s : Int) (a b c : Int × Int) : areaI (a.1, a.2 + s * a.1) (b.1, b.2 + s * b.1) (c.1, c.2 + s * c.1) = areaI a b c := by
  simp only [areaI]
  grind
theorem area_move (q : Int × Int) (a b c : Int × Int) : areaI (a.1 + q.1, a.2 + q.2) (b.1 + q.1, b.2 + q.2) (c.1 + q.1, c.2 + q.2) = areaI a b c := by
  simp only [areaI]
  grind
theorem area_mirror (a b c : Int × Int) : areaI (-a.1, a.2) (-b.1, b.2) (-c.1, c.2) = -areaI a b c := by
  simp only [areaI]
  grind
theorem area_even (a b c : Int × Int) : (areaI a b c) % 2 = 0 ↔ (a.1 % 2 = b.1 % 2 ∧ a.2 % 2 = b.2 % 2) ∨ (a.1 % 2 = c.1 % 2 ∧ a.2 % 2 = c.2 % 2) ∨ (b.1 % 2 = c.1 % 2 ∧ b.2 % 2 = c.2 % 2) := by
  obtain ⟨a1, a2⟩ := a
  obtain ⟨b1, b2⟩ := b
  obtain ⟨c1, c2⟩ := c
  simp only [areaI]
  rcases Int.emod_two_eq a1 with h1 | h1 <;> rcases Int.emod_two_eq a2 with h2 | h2 <;> rcases Int.emod_two_eq b1 with h3 | h3 <;> rcases Int.emod_two_eq b2 with h4 | h4 <;> rcases Int.emod_two_eq c1 with h5 | h5 <;> rcases Int.emod_two_eq c2 with h6 | h6 <;> simp [Int.sub_emod, Int.mul_emod, h1, h2, h3, h4, h5, h6]
def kindI (q : Int × Int) : Int × Int := (q.1.fmod 2, q.2.fmod 2)
def kindC (ds : List (Int × Int)) : List (Int × Int) := ds.map kindI
theorem fm2 (x : Int) : x.fmod 2 = x % 2 := Int.fmod_eq_emod_of_nonneg _ (by decide)
theorem kind_at {ds : List (Int × Int)} {j : Int} (h0 : 0 ≤ j) (h1 : j < ds.length) : atQ (kindC ds) j = kindI (atQ ds j) := by
  have hj : j.toNat < ds.length := by omega
  simp [atQ, kindC, List.getD_eq_getElem?_getD, hj]
theorem kind_len (ds : List (Int × Int)) : (kindC ds).length = ds.length := by simp [kindC]
def areaL (ds : List (Int × Int)) (l : List Int) : Int := match l with
  | [i, j, k] => areaI (atQ ds i) (atQ ds j) (atQ ds k)
  | _ => 0
def sizeL (ds : List (Int × Int)) (l : List Int) : Int := absI (areaL ds l)
def sizesI (ds : List (Int × Int)) : List Int := (lotsI ds.length 3).map (sizeL ds)
def twoK (ds : List (Int × Int)) (l : List Int) : Bool := match l with
  | [i, j, k] => decide (kindI (atQ ds i) = kindI (atQ ds j) ∨ kindI (atQ ds i) = kindI (atQ ds k) ∨ kindI (atQ ds j) = kindI (atQ ds k))
  | _ => false
def evenL (ds : List (Int × Int)) : List (List Int) := (lotsI ds.length 3).filter (twoK ds)
theorem even_two {ds : List (Int × Int)} (i j k : Int) : decide ((areaI (atQ ds i) (atQ ds j) (atQ ds k)).fmod 2 = 0) = twoK ds [i, j, k] := by
  rw [fm2]
  have h := area_even (atQ ds i) (atQ ds j) (atQ ds k)
  show _ = decide _
  rw [decide_eq_decide, h]
  simp only [kindI, fm2, Prod.mk.injEq]
theorem abs_even (x : Int) : decide ((absI x).fmod 2 = 0) = decide (x.fmod 2 = 0) := by
  rw [fm2, fm2, decide_eq_decide]
  unfold absI
  split <;> omega
theorem even_size {ds : List (Int × Int)} {l : List Int} (h : l ∈ lotsI ds.length 3) : decide ((sizeL ds l).fmod 2 = 0) = twoK ds l := by
  obtain ⟨i, j, k, rfl, _⟩ := of_lots3 h
  unfold sizeL
  rw [abs_even]
  exact even_two i j k
theorem even_count (ds : List (Int × Int)) : ((sizesI ds).filter fun s => decide (s.fmod 2 = 0)).length = (evenL ds).length := by
  unfold sizesI evenL
  rw [List.filter_map, List.length_map]
  congr 1
  exact List.filter_congr fun l hl => even_size hl
/-- five dots hold an even triangle -/
theorem five_even {ds : List (Int × Int)} (h : 5 ≤ ds.length) : evenL ds ≠ [] := by
  intro no
  have nolot : ∀ i j k : Nat, i < j → j < k → k < ds.length → kindI (atQ ds i) ≠ kindI (atQ ds j) ∧ kindI (atQ ds i) ≠ kindI (atQ ds k) ∧ kindI (atQ ds j) ≠ kindI (atQ ds k) := by
    intro i j k h1 h2 h3
    have m : ¬ [(i : Int), (j : Int), (k : Int)] ∈ evenL ds := by rw [no]; simp
    unfold evenL at m
    rw [List.mem_filter] at m
    have ml := mem_lots3 (n := ds.length) (i := i) (j := j) (k := k) (by omega) (by omega) (by omega) (by omega)
    have nt : ¬ twoK ds [(i : Int), (j : Int), (k : Int)] = true := fun e => m ⟨ml, e⟩
    simp only [twoK, decide_eq_true_eq, not_or] at nt
    exact nt
  have k : ∀ q r : Int × Int, kindI q ≠ kindI r → 2 * (kindI q).1 + (kindI q).2 ≠ 2 * (kindI r).1 + (kindI r).2 := by
    intro q r hn e
    simp only [kindI, fm2] at e hn
    exact hn (Prod.ext (by simp only; omega) (by simp only; omega))
  have sm : ∀ q : Int × Int, 0 ≤ (kindI q).1 ∧ (kindI q).1 ≤ 1 ∧ 0 ≤ (kindI q).2 ∧ (kindI q).2 ≤ 1 := by
    intro q
    simp only [kindI, fm2]
    omega
  have a0 := sm (atQ ds (0 : Nat))
  have a1 := sm (atQ ds (1 : Nat))
  have a2 := sm (atQ ds (2 : Nat))
  have a3 := sm (atQ ds (3 : Nat))
  have a4 := sm (atQ ds (4 : Nat))
  obtain ⟨x01, x02, x12⟩ := nolot 0 1 2 (by omega) (by omega) (by omega)
  obtain ⟨_, x03, x13⟩ := nolot 0 1 3 (by omega) (by omega) (by omega)
  obtain ⟨_, x04, x14⟩ := nolot 0 1 4 (by omega) (by omega) (by omega)
  obtain ⟨x23, x24, x34⟩ := nolot 2 3 4 (by omega) (by omega) (by omega)
  have n01 := k _ _ x01
  have n02 := k _ _ x02
  have n03 := k _ _ x03
  have n04 := k _ _ x04
  have n12 := k _ _ x12
  have n13 := k _ _ x13
  have n14 := k _ _ x14
  have n23 := k _ _ x23
  have n24 := k _ _ x24
  have n34 := k _ _ x34
  generalize kindI (atQ ds (0 : Nat)) = q0 at *
  generalize kindI (atQ ds (1 : Nat)) = q1 at *
  generalize kindI (atQ ds (2 : Nat)) = q2 at *
  generalize kindI (atQ ds (3 : Nat)) = q3 at *
  generalize kindI (atQ ds (4 : Nat)) = q4 at *
  omega
theorem at_map {f : Int × Int → Int × Int} {ds : List (Int × Int)} {j : Int} (h0 : 0 ≤ j) (h1 : j < ds.length) : atQ (ds.map f) j = f (atQ ds j) := by
  have hj : j.toNat < ds.length := by omega
  simp [atQ, List.getD_eq_getElem?_getD, hj]
theorem sizes_map {f : Int × Int → Int × Int} (hf : ∀ a b c, absI (areaI (f a) (f b) (f c)) = absI (areaI a b c)) (ds : List (Int × Int)) : sizesI (ds.map f) = sizesI ds := by
  unfold sizesI
  rw [List.length_map]
  refine List.map_congr_left fun l hl => ?_
  obtain ⟨i, j, k, rfl, h0, h1, h2, h3⟩ := of_lots3 hl
  simp only [sizeL, areaL]
  rw [at_map h0 (by omega), at_map (by omega) (by omega), at_map (by omega) h3, hf]
def mirI (q : Int × Int) : Int × Int := (-q.1, q.2)
def sheI (s : Int) (q : Int × Int) : Int × Int := (q.1, q.2 + s * q.1)
theorem sizes_mir (ds : List (Int × Int)) : sizesI (ds.map mirI) = sizesI ds := sizes_map (fun a b c => by
  simp only [mirI]
  rw [area_mirror]
  unfold absI
  split <;> split <;> omega) ds
theorem sizes_she (s : Int) (ds : List (Int × Int)) : sizesI (ds.map (sheI s)) = sizesI ds := sizes_map (fun a b c => by
  simp only [sheI]
  rw [area_shear]) ds
theorem sizes_mov (q : Int × Int) (ds : List (Int × Int)) : sizesI (moveI ds q) = sizesI ds := sizes_map (f := fun z => (z.1 + q.1, z.2 + q.2)) (fun a b c => congrArg absI (area_move q a b c)) ds
/-! a comprehension over threes -/
theorem ev_filter3 {gl : List (Str × D)} {cal : Cal} {elt it c : E} {p q r : Nat} {ρ : En} {L : List (List Int)} {kp : D} {k : List Int → Bool} {g : List Int → D} (hit : evI gl cal it ρ = some (L.map lotD, kp, ρ)) (hk : (bor kp && !(isP elt && isP c)) = false) (hl : L.length ≤ 10000000)
    (hp : ρ[p]? = some none) (hq : ρ[q]? = some none) (hr : ρ[r]? = some none) (n1 : p ≠ q) (n2 : p ≠ r) (n3 : q ≠ r) (h3 : ∀ l ∈ L, ∃ i j m, l = [i, j, m])
    (hc : ∀ i j m, [i, j, m] ∈ L → evE gl cal c (((ρ.set p (some (.int i))).set q (some (.int j))).set r (some (.int m))) = some (.bl (k [i, j, m]), ((ρ.set p (some (.int i))).set q (some (.int j))).set r (some (.int m))))
    (he : ∀ i j m, [i, j, m] ∈ L → k [i, j, m] = true → evE gl cal elt (((ρ.set p (some (.int i))).set q (some (.int j))).set r (some (.int m))) = some (g [i, j, m], ((ρ.set p (some (.int i))).set q (some (.int j))).set r (some (.int m))) ∧ bor (g [i, j, m]) = false) :
    evE gl cal (.lc elt (.tp (.cons (.nm p) (.cons (.nm q) (.cons (.nm r) .nil)))) it c [p, q, r]) ρ = some (.lst .own ((L.filter k).map g), ρ) := by
  have w : wipeD ρ [p, q, r] = ρ := by
    simp only [wipeD]
    rw [set_same hr, set_same hq, set_same hp]
  have lp := (List.getElem?_eq_some_iff.mp hp).1
  have lq := (List.getElem?_eq_some_iff.mp hq).1
  have lr := (List.getElem?_eq_some_iff.mp hr).1
  have b2 : ∀ i j m : Int, wipeD (((ρ.set p (some (D.int i))).set q (some (.int j))).set r (some (.int m))) [p, q, r] = ρ := by
    intro i j m
    apply List.ext_getElem?
    intro x
    simp only [wipeD]
    by_cases e1 : p = x
    · subst e1
      rw [List.getElem?_set_self (by simp [lp]), hp]
    · rw [List.getElem?_set_ne e1]
      by_cases e2 : q = x
      · subst e2
        rw [List.getElem?_set_self (by simp [lq]), hq]
      · rw [List.getElem?_set_ne e2]
        by_cases e3 : r = x
        · subst e3
          rw [List.getElem?_set_self (by simp [lr]), hr]
        · rw [List.getElem?_set_ne e3, List.getElem?_set_ne e3, List.getElem?_set_ne e2, List.getElem?_set_ne e1]
  let h : D → List D := fun x => match x with | .tup [.int i, .int j, .int m] => if k [i, j, m] then [g [i, j, m]] else [] | _ => []
  have hL : lcL (lcF gl cal elt (.tp (.cons (.nm p) (.cons (.nm q) (.cons (.nm r) .nil)))) c [p, q, r]) (L.map lotD) (wipeD ρ [p, q, r]) = some ((L.map lotD).flatMap h, ρ) := by
    rw [w]
    refine lcL_flat fun x hx => ?_
    obtain ⟨l, hl, rfl⟩ := List.mem_map.mp hx
    obtain ⟨i, j, m, rfl⟩ := h3 l hl
    have bt : bindT (.tp (.cons (.nm p) (.cons (.nm q) (.cons (.nm r) .nil)))) (lotD [i, j, m]) ρ = some (((ρ.set p (some (.int i))).set q (some (.int j))).set r (some (.int m))) := by
      simp [bindT, bindTs, lotD, bor, lp, lq, lr]
    have c1 := hc i j m hl
    cases hkx : k [i, j, m] with
    | true =>
      rw [hkx] at c1
      obtain ⟨e1, e2⟩ := he i j m hl hkx
      have hh : h (lotD [i, j, m]) = [g [i, j, m]] := by show (if k [i, j, m] then _ else _) = _; rw [hkx]; rfl
      simp only [lcF, bt, c1, e1, e2, b2, hh]
      rfl
    | false =>
      rw [hkx] at c1
      have hh : h (lotD [i, j, m]) = [] := by show (if k [i, j, m] then _ else _) = _; rw [hkx]; rfl
      simp only [lcF, bt, c1, b2, hh]
  have lc := ev_lc (gl := gl) (cal := cal) (t := .tp (.cons (.nm p) (.cons (.nm q) (.cons (.nm r) .nil)))) (vs := [p, q, r]) hit hk (by simpa using hl) (by simp [tgs]) hL
  rw [lc]
  have e1 : (L.map lotD).flatMap h = (L.filter k).map g := by
    clear hL lc hit hl hc he
    induction L with
    | nil => rfl
    | cons l L ih =>
      obtain ⟨i, j, m, rfl⟩ := h3 l List.mem_cons_self
      have ih' := ih fun z hz => h3 z (List.mem_cons_of_mem _ hz)
      rw [List.map_cons, List.flatMap_cons, ih', List.filter_cons]
      show (if k [i, j, m] then [g [i, j, m]] else []) ++ _ = _
      cases k [i, j, m] <;> rfl
  have e2 : restore ρ [p, q, r] ρ = ρ := by simp [restore, hp, hq, hr]
  rw [e1, e2]
end Pur

namespace Pur
open PySem
/-! raw_area, mirrored, all_sizes, even_many, even_by_kinds, triangle_sizes -/
theorem rarea_run {p : Pg} {cal : Cal} {W : Nat} {a b c : Int × Int} (ha : Near a) (hb : Near b) :
    runF p W cal ⟨"raw_area", 3, n_raw_area, b_raw_area⟩ [dotD a, dotD b, dotD c] = some (.int (areaI a b c), [dotD a, dotD b, dotD c]) := by
  obtain ⟨a1, a2, a3, a4⟩ := ha
  obtain ⟨b1, b2, b3, b4⟩ := hb
  have m1 : mulOk (b.1 - a.1) (c.2 - a.2) = true := mulOk_l (by simp only [small64, decide_eq_true_eq]; omega)
  have m2 : mulOk (b.2 - a.2) (c.1 - a.1) = true := mulOk_l (by simp only [small64, decide_eq_true_eq]; omega)
  unfold runF
  simp [b_raw_area, n_raw_area, evS, evE, dotD, look, lookL, bor, borL, isP, idxS, L2.atI, L2.ixN, binS, m1, m2, finL, frz, frzL, areaI]
theorem it_cr {gl : List (Str × D)} {cal : Cal} {c : Nat} {ρ : En} {ds : List (Int × Int)} (h : ρ[c]? = some (some (crowdD ds))) : evI gl cal (.v .bo c) ρ = some (ds.map dotD, crowdD ds, ρ) := by
  have e : itOf (.v .bo c) (crowdD ds) = some (ds.map dotD, crowdD ds) := by simp [itOf, crowdD, seqOf, frz_dots]
  unfold evI
  rw [evE]
  simp only [h, look_crowd, e]
theorem ev_tupl {gl : List (Str × D)} {cal : Cal} {e : E} {ds : List (Int × Int)} {ρ : En} (h : evE gl cal e ρ = some (.lst .own (ds.map dotD), ρ)) : evE gl cal (.bi .tuple (.cons e .nil)) ρ = some (crowdD ds, ρ) := by
  rw [evE, evA, h]
  simp [evA, bor, borL_dots, biS, tupS, crowdD]
def MirS (cal : Cal) (k : Nat) : Prop := ∀ ds, Crowd ds → cal k [crowdD ds] = some (crowdD (ds.map mirI), [crowdD ds])
theorem mir_run {p : Pg} {cal : Cal} {W k : Nat} (hc : CheckS cal k) {ds : List (Int × Int)} (cr : Crowd ds) : runF p W cal ⟨"mirrored", 1, n_mirrored, b_mirrored k⟩ [crowdD ds] = some (crowdD (ds.map mirI), [crowdD ds]) := by
  have hi := cr.hi
  let ρ : En := [some (crowdD ds), none, none]
  have s1 := ev_check (gl := p.gs) (W := W) hc cr (ρ := ρ) rfl
  have lc := ev_map2 (gl := p.gs) (cal := cal) (elt := .tup (.cons (.neg (.v .bo 1)) (.cons (.v .bo 2) .nil))) (p := 1) (p' := 2) (ρ := ρ) (g := fun q => dotD (mirI q)) (it_cr (c := 0) rfl) (by simp [bor_crowd]) (by omega) rfl rfl (by decide) (fun q _ => by
    refine ⟨?_, rfl⟩
    simp [evE, evA, ρ, look, bor, mirI, dotD])
  have mp : ds.map (fun q => dotD (mirI q)) = (ds.map mirI).map dotD := by simp [Function.comp_def]
  rw [mp] at lc
  have body : evS p.gs cal W (b_mirrored k) ρ = some (.rt (crowdD (ds.map mirI)) ρ) := by
    show evS p.gs cal W (.cons _ (.cons _ .nil)) _ = _
    rw [ev_cons s1, ev_cons_rt (ev_ret (ev_tupl lc) (bor_crowd _))]
  simp only [ρ] at body
  unfold runF
  simp [n_mirrored, bor_crowd, borL, body, finL, frz_crowd]
def sizeD (ds : List (Int × Int)) (l : List Int) : D := .tup [.int (sizeL ds l), lotD l]
theorem frz_size (ds : List (Int × Int)) : ∀ L : List (List Int), frzL (L.map (sizeD ds)) = true
  | [] => rfl
  | l :: L => by simp only [List.map_cons, frzL, frz_size ds L, sizeD, frz, frz_lot]; rfl
def AllS (cal : Cal) (k : Nat) : Prop := ∀ ds, Crowd ds → cal k [crowdD ds] = some (.lst .own ((lotsI ds.length 3).map (sizeD ds)), [crowdD ds])
theorem three_l {ds : List (Int × Int)} : ∀ l ∈ lotsI ds.length 3, ∃ i j m, l = [i, j, m] := fun l h => by obtain ⟨i, j, k, rfl, _⟩ := of_lots3 h; exact ⟨i, j, k, rfl⟩
theorem lots3_len {ds : List (Int × Int)} (hn : ds.length ≤ 60) : (lotsI ds.length 3).length ≤ 1000000 := by
  obtain ⟨_, lt2⟩ := lots_len (many := (ds.length : Int)) (by omega) (n := 3) (by omega)
  refine Nat.le_trans lt2 ?_
  have := Nat.pow_le_pow_left (show (ds.length : Int).toNat ≤ 60 by omega) 3
  omega
theorem all_run {p : Pg} {cal : Cal} {W ka kl : Nat} (ha : AreaS cal ka) (hl : LotsS cal kl) {ds : List (Int × Int)} (cr : Crowd ds) : runF p W cal ⟨"all_sizes", 1, n_all_sizes, b_all_sizes ka kl⟩ [crowdD ds] = some (.lst .own ((lotsI ds.length 3).map (sizeD ds)), [crowdD ds]) := by
  have hi := cr.hi
  let ρ : En := [some (crowdD ds), none, none, none]
  have bl := (stillL _ (frz_lots (lotsI ds.length 3))).2.2
  have ll := lots3_len (ds := ds) (by omega)
  have lc := ev_filter3 (gl := p.gs) (cal := cal) (elt := .tup (.cons (.bi .abs (.cons (.fc ka (.cons (.idx (.v .bo 0) (.v .bo 1)) (.cons (.idx (.v .bo 0) (.v .bo 2)) (.cons (.idx (.v .bo 0) (.v .bo 3)) .nil)))) .nil)) (.cons (.tup (.cons (.v .bo 1) (.cons (.v .bo 2) (.cons (.v .bo 3) .nil)))) .nil))) (c := .bl true) (p := 1) (q := 2) (r := 3) (ρ := ρ) (k := fun _ => true) (g := sizeD ds) (it_lots hl (by omega) rfl) (by simp [bor, bl]) (by omega) rfl rfl rfl (by decide) (by decide) (by decide) three_l (fun i j m _ => by rw [evE]) (fun i j m h _ => by
    obtain ⟨i', j', m', e', h0, h1, h2, h3⟩ := of_lots3 h
    cases e'
    refine ⟨?_, by simp [sizeD, bor, borL, bor_lot]⟩
    have k1 := idx_crowd ds (j := i) h0 (by omega)
    have k2 := idx_crowd ds (j := j) (by omega) (by omega)
    have k3 := idx_crowd ds (j := m) (by omega) h3
    have m1 := near_far (cr.far _ (at_mem (ds := ds) (j := i) h0 (by omega)))
    have m2 := near_far (cr.far _ (at_mem (ds := ds) (j := j) (by omega) (by omega)))
    have e := ha (atQ ds i) (atQ ds j) (atQ ds m) m1 m2
    simp [evE, evA, evF, ρ, lendOf, lends, look, look_crowd, bor_crowd, bor, isP, k1, k2, k3, bor_dot, fillL, giveL, e, biS, absS, sizeD, sizeL, absI, areaL, lotD, borL]
    try congr)
  rw [List.filter_eq_self.mpr (fun _ _ => rfl)] at lc
  have bs := (stillL _ (frz_size ds (lotsI ds.length 3))).2.2
  have body : evS p.gs cal W (b_all_sizes ka kl) ρ = some (.rt (.lst .own ((lotsI ds.length 3).map (sizeD ds))) ρ) := by
    show evS p.gs cal W (.cons _ .nil) _ = _
    rw [ev_cons_rt (ev_ret lc (by simp only [bor, bs]; rfl))]
  simp only [ρ] at body
  unfold runF
  simp [n_all_sizes, bor_crowd, borL, body, finL, frz_crowd]
/-- over the sizes -/
theorem ev_sizes {gl : List (Str × D)} {cal : Cal} {ka p p' : Nat} {elt c : E} {k : Int → Bool} (ha : AllS cal ka) {ds : List (Int × Int)} (cr : Crowd ds) {ρ : En} (h0 : ρ[0]? = some (some (crowdD ds))) (hp : ρ[p]? = some none) (hp' : ρ[p']? = some none) (hn : p ≠ p')
    (he : ∀ (s : Int) ρ', ρ'[p]? = some (some (.int s)) → evE gl cal elt ρ' = some (.int s, ρ')) (hc : ∀ (s : Int) ρ', ρ'[p]? = some (some (.int s)) → evE gl cal c ρ' = some (.bl (k s), ρ')) :
    evE gl cal (.lc elt (.tp (.cons (.nm p) (.cons (.nm p') .nil))) (.fc ka (.cons (.lend 0) .nil)) c [p, p']) ρ = some (.lst .own (((sizesI ds).filter k).map .int), ρ) := by
  have hi := cr.hi
  have fs := frz_size ds (lotsI ds.length 3)
  have bs := (stillL _ fs).2.2
  have l1 := (List.getElem?_eq_some_iff.mp hp).1
  have l2 := (List.getElem?_eq_some_iff.mp hp').1
  have ll := lots3_len (ds := ds) (by omega)
  have bl0 : bor (.lst .own ((lotsI ds.length 3).map (sizeD ds))) = false := by simp only [bor, bs]; rfl
  have v := ev_one (gl := gl) (cal := cal) (k := ka) (s := 0) (ρ := ρ) h0 (frz_crowd ds).1 (ha ds cr) bl0
  have it : evI gl cal (.fc ka (.cons (.lend 0) .nil)) ρ = some ((lotsI ds.length 3).map (sizeD ds), .lst .own ((lotsI ds.length 3).map (sizeD ds)), ρ) := by
    unfold evI
    rw [v]
    simp only [itOf, seqOf, fs, if_true]
  have w : wipeD ρ [p, p'] = ρ := by
    simp only [wipeD]
    rw [set_same hp', set_same hp]
  let h : D → List D := fun x => match x with | .tup [.int s, _] => if k s then [.int s] else [] | _ => []
  have hL : lcL (lcF gl cal elt (.tp (.cons (.nm p) (.cons (.nm p') .nil))) c [p, p']) ((lotsI ds.length 3).map (sizeD ds)) (wipeD ρ [p, p']) = some (((lotsI ds.length 3).map (sizeD ds)).flatMap h, ρ) := by
    rw [w]
    refine lcL_flat fun x hx => ?_
    obtain ⟨l, hl, rfl⟩ := List.mem_map.mp hx
    let ρ' : En := (ρ.set p (some (.int (sizeL ds l)))).set p' (some (lotD l))
    have bt : bindT (.tp (.cons (.nm p) (.cons (.nm p') .nil))) (sizeD ds l) ρ = some ρ' := by
      simp [bindT, bindTs, sizeD, bor, bor_lot, l1, l2, ρ']
    have g : ρ'[p]? = some (some (.int (sizeL ds l))) := by
      show ((ρ.set p (some (.int (sizeL ds l)))).set p' (some (lotD l)))[p]? = _
      rw [List.getElem?_set_ne (Ne.symm hn), List.getElem?_set_self l1]
    have b2 : wipeD ρ' [p, p'] = ρ := by
      simp only [wipeD, ρ', List.set_set]
      rw [List.set_comm _ _ hn, List.set_set, List.set_comm _ _ (Ne.symm hn), set_same hp, set_same hp']
    have c1 := hc _ ρ' g
    have e1 := he _ ρ' g
    have hh : h (sizeD ds l) = if k (sizeL ds l) then [.int (sizeL ds l)] else [] := rfl
    cases hk : k (sizeL ds l) with
    | true =>
      rw [hk] at c1 hh
      simp only [lcF, bt, c1, e1, b2, hh]
      rfl
    | false =>
      rw [hk] at c1 hh
      simp only [lcF, bt, c1, b2, hh]
      rfl
  have lc := ev_lc (gl := gl) (cal := cal) (t := .tp (.cons (.nm p) (.cons (.nm p') .nil))) (vs := [p, p']) it (by rw [bl0]; rfl) (by simp; omega) (by simp [tgs]) hL
  rw [lc]
  have e1 : ∀ L : List (List Int), (L.map (sizeD ds)).flatMap h = ((L.map (sizeL ds)).filter k).map .int := by
    intro L
    induction L with
    | nil => rfl
    | cons l L ih =>
      rw [List.map_cons, List.flatMap_cons, ih, List.map_cons, List.filter_cons]
      show (if k (sizeL ds l) then [D.int (sizeL ds l)] else []) ++ _ = _
      cases k (sizeL ds l) <;> rfl
  have e2 : restore ρ [p, p'] ρ = ρ := by simp [restore, hp, hp']
  rw [e1, e2]
  rfl
def EvenS (cal : Cal) (k : Nat) : Prop := ∀ ds, Crowd ds → cal k [crowdD ds] = some (.int (evenL ds).length, [crowdD ds])
theorem even_run {p : Pg} {cal : Cal} {W kc ka : Nat} (hc : CheckS cal kc) (ha : AllS cal ka) {ds : List (Int × Int)} (cr : Crowd ds) : runF p W cal ⟨"even_many", 1, n_even_many, b_even_many kc ka⟩ [crowdD ds] = some (.int (evenL ds).length, [crowdD ds]) := by
  let ρ : En := [some (crowdD ds), none, none]
  have s1 := ev_check (gl := p.gs) (W := W) hc cr (ρ := ρ) rfl
  have lc := ev_sizes (gl := p.gs) (elt := .v .bo 1) (c := .cmp .eq (.bin .mod (.v .bo 1) (.int 2)) (.int 0)) (k := fun s => decide (s.fmod 2 = 0)) (p := 1) (p' := 2) ha cr (ρ := ρ) rfl rfl rfl (by decide) (fun s ρ' g => by simp [evE, g, look]) (fun s ρ' g => by
    simp [evE, g, look, bor, isP, binS, cmp_eq_int])
  have bi := bor_ints ((sizesI ds).filter fun s => decide (s.fmod 2 = 0))
  have ec := even_count ds
  have rt : evE p.gs cal (.bi .len (.cons (.lc (.v .bo 1) (.tp (.cons (.nm 1) (.cons (.nm 2) .nil))) (.fc ka (.cons (.lend 0) .nil)) (.cmp .eq (.bin .mod (.v .bo 1) (.int 2)) (.int 0)) [1, 2]) .nil)) ρ = some (.int (evenL ds).length, ρ) := by
    rw [evE, evA, lc]
    simp [evA, bor, bi, isP, biS, lenS]
    exact congrArg Int.ofNat ec
  have body : evS p.gs cal W (b_even_many kc ka) ρ = some (.rt (.int (evenL ds).length) ρ) := by
    show evS p.gs cal W (.cons _ (.cons _ .nil)) _ = _
    rw [ev_cons s1, ev_cons_rt (ev_ret rt rfl)]
  simp only [ρ] at body
  unfold runF
  simp [n_even_many, bor_crowd, borL, body, finL, frz_crowd]
theorem uniq3 (a b c : Int × Int) : ∃ n : Nat, uniqS [dotD a, dotD b, dotD c] = some n ∧ (decide ((n : Int) < 3) = decide (a = b ∨ a = c ∨ b = c)) := by
  have kk : uniqS [dotD a, dotD b, dotD c] = some (addK [] [keyD a, keyD b, keyD c]).length := by
    have e1 : kOfL [dotD a, dotD b, dotD c] = none := by simp [kOfL, kOf, dotD]
    have e2 := ksT_dots [a, b, c]
    simp only [List.map_cons, List.map_nil] at e2
    unfold uniqS
    rw [e1, e2]
  refine ⟨_, kk, ?_⟩
  have inj : ∀ x y : Int × Int, keyD x = keyD y ↔ x = y := by
    intro x y
    constructor
    · intro e
      simp only [keyD, List.cons.injEq, Sum.inl.injEq, and_true] at e
      exact Prod.ext e.1 e.2
    · rintro rfl; rfl
  simp only [addK, List.nil_append, List.not_mem_nil, if_false]
  by_cases h1 : a = b
  · subst h1
    by_cases h2 : a = c
    · subst h2
      simp [addK]
    · have : ¬ keyD c = keyD a := fun e => h2 ((inj _ _).mp e).symm
      simp [addK, this]
  · have n1 : ¬ keyD b = keyD a := fun e => h1 ((inj _ _).mp e).symm
    by_cases h2 : a = c
    · subst h2
      simp [addK, n1]
    · have n2 : ¬ keyD c = keyD a := fun e => h2 ((inj _ _).mp e).symm
      by_cases h3 : b = c
      · subst h3
        simp [addK, n1]
      · have n3 : ¬ keyD c = keyD b := fun e => h3 ((inj _ _).mp e).symm
        simp [addK, n1, n2, n3, h1, h2, h3]
theorem byk_run {p : Pg} {cal : Cal} {W kc kl : Nat} (hc : CheckS cal kc) (hl : LotsS cal kl) {ds : List (Int × Int)} (cr : Crowd ds) : runF p W cal ⟨"even_by_kinds", 1, n_even_by_kinds, b_even_by_kinds kc kl⟩ [crowdD ds] = some (.int (evenL ds).length, [crowdD ds]) := by
  have hi := cr.hi
  let ρ0 : En := [some (crowdD ds), none, none, none, none, none, none, none]
  have s1 := ev_check (gl := p.gs) (W := W) hc cr (ρ := ρ0) rfl
  have lk := ev_map2 (gl := p.gs) (cal := cal) (elt := .tup (.cons (.bin .mod (.v .bo 2) (.int 2)) (.cons (.bin .mod (.v .bo 3) (.int 2)) .nil))) (p := 2) (p' := 3) (ρ := ρ0) (g := fun q => dotD (kindI q)) (it_cr (c := 0) rfl) (by simp [bor_crowd]) (by omega) rfl rfl (by decide) (fun q _ => by
    refine ⟨?_, rfl⟩
    simp [evE, evA, ρ0, look, bor, isP, binS, kindI, dotD])
  have mp : ds.map (fun q => dotD (kindI q)) = (kindC ds).map dotD := by simp [kindC, Function.comp_def]
  rw [mp] at lk
  let ρ : En := [some (crowdD ds), some (.lst .own ((kindC ds).map dotD)), none, none, none, none, none, none]
  have s2 : evS p.gs cal W (.asg (.nm 1) (.lc (.tup (.cons (.bin .mod (.v .bo 2) (.int 2)) (.cons (.bin .mod (.v .bo 3) (.int 2)) .nil))) (.tp (.cons (.nm 2) (.cons (.nm 3) .nil))) (.v .bo 0) (.bl true) [2, 3])) ρ0 = some (.nx ρ) := by
    rw [evS, lk]
    simp [bindT, bor, borL_dots, ρ0, ρ]
  have bl := (stillL _ (frz_lots (lotsI ds.length 3))).2.2
  have ll := lots3_len (ds := ds) (by omega)
  have lc := ev_filter3 (gl := p.gs) (cal := cal) (elt := .int 1) (c := .cmp .lt (.uniq (.idx (.v .bo 1) (.v .bo 7)) (.nm 7) (.tup (.cons (.v .bo 4) (.cons (.v .bo 5) (.cons (.v .bo 6) .nil)))) [7]) (.int 3)) (p := 4) (q := 5) (r := 6) (ρ := ρ) (k := twoK ds) (g := fun _ => .int 1) (it_lots hl (by omega) rfl) (by simp [bor, bl]) (by omega) rfl rfl rfl (by decide) (by decide) (by decide) three_l (fun i j m h => by
      obtain ⟨i', j', m', e', h0, h1, h2, h3⟩ := of_lots3 h
      cases e'
      let ρ1 : En := [some (crowdD ds), some (.lst .own ((kindC ds).map dotD)), none, none, some (.int i), some (.int j), some (.int m), none]
      have kl3 := kind_len ds
      have k1 := idx_lst .bor (kindC ds) (j := i) h0 (by omega)
      have k2 := idx_lst .bor (kindC ds) (j := j) (by omega) (by omega)
      have k3 := idx_lst .bor (kindC ds) (j := m) (by omega) (by omega)
      rw [kind_at h0 (by omega)] at k1
      rw [kind_at (by omega) (by omega)] at k2
      rw [kind_at (by omega) (by omega)] at k3
      have it : evI p.gs cal (.tup (.cons (.v .bo 4) (.cons (.v .bo 5) (.cons (.v .bo 6) .nil)))) ρ1 = some ([.int i, .int j, .int m], .tup [.int i, .int j, .int m], ρ1) := by
        simp [evI, evE, evA, ρ1, look, bor, isP, itOf, seqOf, frzL, frz]
      obtain ⟨n, u1, u2⟩ := uniq3 (kindI (atQ ds i)) (kindI (atQ ds j)) (kindI (atQ ds m))
      have one : ∀ (x : Int) (q : Int × Int), idxS (.lst .bor ((kindC ds).map dotD)) (.int x) = some (dotD q) → unF p.gs cal (.idx (.v .bo 1) (.v .bo 7)) (.nm 7) [7] (.int x) ρ1 = some ([dotD q], ρ1) := by
        intro x q hx
        have e : evE p.gs cal (.idx (.v .bo 1) (.v .bo 7)) (ρ1.set 7 (some (.int x))) = some (dotD q, ρ1.set 7 (some (.int x))) := by
          simp [evE, ρ1, look, look_dots, isP, hx]
        have bt : bindT (.nm 7) (.int x) ρ1 = some (ρ1.set 7 (some (.int x))) := by simp [bindT, bor, ρ1]
        simp only [unF, bt, e]
        rfl
      have hL : lcL (unF p.gs cal (.idx (.v .bo 1) (.v .bo 7)) (.nm 7) [7]) [.int i, .int j, .int m] (wipeD ρ1 [7]) = some ([dotD (kindI (atQ ds i)), dotD (kindI (atQ ds j)), dotD (kindI (atQ ds m))], ρ1) := by
        have w : wipeD ρ1 [7] = ρ1 := rfl
        rw [w]
        simp only [lcL, one _ _ k1, one _ _ k2, one _ _ k3]
        rfl
      have un := ev_uniq (gl := p.gs) (cal := cal) (key := .idx (.v .bo 1) (.v .bo 7)) (t := .nm 7) (vs := [7]) it rfl (by simp) (by simp [tgs]) hL u1
      have rs : restore ρ1 [7] ρ1 = ρ1 := rfl
      rw [rs] at un
      show evE p.gs cal _ ρ1 = some (.bl (twoK ds [i, j, m]), ρ1)
      rw [evE, un]
      simp only [evE, bor, cmp_lt, u2]
      rfl) (fun i j m _ _ => ⟨by rw [evE], rfl⟩)
  have rt : evE p.gs cal (.bi .len (.cons (.lc (.int 1) (.tp (.cons (.nm 4) (.cons (.nm 5) (.cons (.nm 6) .nil)))) (.fc kl (.cons (.bi .len (.cons (.v .bo 0) .nil)) (.cons (.int 3) .nil))) (.cmp .lt (.uniq (.idx (.v .bo 1) (.v .bo 7)) (.nm 7) (.tup (.cons (.v .bo 4) (.cons (.v .bo 5) (.cons (.v .bo 6) .nil)))) [7]) (.int 3)) [4, 5, 6]) .nil)) ρ = some (.int (evenL ds).length, ρ) := by
    have bo : ∀ L : List (List Int), borL (L.map fun _ => D.int 1) = false := by
      intro L
      induction L with
      | nil => rfl
      | cons x L ih => simp only [List.map_cons, borL, bor, ih]; rfl
    rw [evE, evA, lc]
    simp only [evA, bor, bo]
    have ls : biS .len [.lst .own (((lotsI ds.length 3).filter (twoK ds)).map fun _ => D.int 1)] = some (.int (evenL ds).length) := by
      simp [biS, lenS, evenL]
    show Option.map _ (biS .len _) = _
    rw [ls]
    rfl
  have body : evS p.gs cal W (b_even_by_kinds kc kl) ρ0 = some (.rt (.int (evenL ds).length) ρ) := by
    show evS p.gs cal W (.cons _ (.cons _ (.cons _ .nil))) _ = _
    rw [ev_cons s1, ev_cons s2, ev_cons_rt (ev_ret rt rfl)]
  simp only [ρ0, ρ] at body
  unfold runF
  simp [n_even_by_kinds, bor_crowd, borL, body, finL, frz_crowd]
end Pur

namespace Pur
open PySem
/-! triangle_sizes -/
theorem addK_inl : ∀ ns seen : List Int, addK (κ := L2.Key) (seen.map Sum.inl) (ns.map Sum.inl) = (addK seen ns).map Sum.inl
  | [], seen => by simp only [List.map_nil, addK]
  | n :: ns, seen => by
    have m : (Sum.inl n : L2.Key) ∈ (seen.map Sum.inl : List L2.Key) ↔ n ∈ seen := by simp
    simp only [List.map_cons, addK]
    by_cases h : n ∈ seen
    · rw [if_pos h, if_pos (m.mpr h)]
      exact addK_inl ns seen
    · rw [if_neg h, if_neg (fun x => h (m.mp x))]
      have := addK_inl ns (seen ++ [n])
      rw [List.map_append] at this
      exact this
theorem kOfL_ints : ∀ ns : List Int, kOfL (ns.map .int) = some (ns.map Sum.inl)
  | [] => rfl
  | n :: ns => by simp only [List.map_cons, kOfL, kOf, kOfL_ints ns, Option.map_some]
theorem keysInt_inl : ∀ ns : List Int, keysInt (ns.map Sum.inl) = some ns
  | [] => rfl
  | n :: ns => by simp only [List.map_cons, keysInt, keysInt_inl ns, Option.map_some]
theorem usS_ints (ns : List Int) : usS (ns.map .int) = some (addK [] ns) := by
  unfold usS
  rw [kOfL_ints]
  have := addK_inl ns []
  rw [List.map_nil] at this
  show keysInt (addK [] _) = _
  rw [this, keysInt_inl]
theorem ev_usort {gl : List (Str × D)} {cal : Cal} {key it : E} {t : T} {vs : List Nat} {ρ ρ1 ρ2 : En} {items ys : List D} {kp : D} {ns : List Int} (hit : evI gl cal it ρ = some (items, kp, ρ1)) (hk : isP key = true) (hl : items.length ≤ 1000) (ht : (tgs t).all vs.contains = true)
    (hL : lcL (unF gl cal key t vs) items (wipeD ρ1 vs) = some (ys, ρ2)) (hu : usS ys = some ns) : evE gl cal (.usort key t it vs) ρ = some (.lst .own ((isort ns).map .int), restore ρ1 vs ρ2) := by
  unfold evI at hit
  cases e1 : evE gl cal it ρ with
  | none => rw [e1] at hit; cases hit
  | some q =>
    obtain ⟨d0, ρ0⟩ := q
    rw [e1] at hit
    cases e2 : itOf it d0 with
    | none => simp only [e2] at hit; cases hit
    | some q2 =>
      obtain ⟨items', kp'⟩ := q2
      simp only [e2, Option.some.injEq, Prod.mk.injEq] at hit
      obtain ⟨rfl, rfl, rfl⟩ := hit
      simp only [evE, e1, e2]
      rw [if_neg (by rw [hk, ht]; simp; omega)]
      show (match lcL (unF gl cal key t vs) items' (wipeD ρ0 vs) with
        | some (ys, ρ2) => (usS ys).map fun ns => (D.lst .own ((isort ns).map .int), restore ρ0 vs ρ2)
        | none => none) = _
      rw [hL]
      simp [hu]
def tsI (ns : List Int) : List (Int × Int) := (isort (addK [] ns)).map fun s => (s, (ns.count s : Int))
theorem lots3_220 : ∀ n : Fin 13, (lotsI (n.val : Int) 3).length ≤ 220 := by decide +kernel
theorem sizes_few {ds : List (Int × Int)} (h : ds.length ≤ 12) : (sizesI ds).length ≤ 220 := by
  unfold sizesI
  rw [List.length_map]
  exact lots3_220 ⟨ds.length, by omega⟩
theorem ins_len (x : Int) : ∀ ys : List Int, (ins x ys).length = ys.length + 1
  | [] => rfl
  | y :: ys => by
    unfold ins
    split
    · rfl
    · simp only [List.length_cons, ins_len x ys]
theorem isort_len : ∀ xs : List Int, (isort xs).length = xs.length
  | [] => rfl
  | x :: xs => by simp only [isort, ins_len, isort_len xs, List.length_cons]
theorem addK_lenI : ∀ ns seen : List Int, (addK seen ns).length ≤ seen.length + ns.length
  | [], seen => by simp only [addK]; simp
  | n :: ns, seen => by
    have a := addK_lenI ns seen
    have b := addK_lenI ns (seen ++ [n])
    simp only [List.length_append, List.length_cons, List.length_nil] at b
    simp only [addK, List.length_cons]
    split <;> omega
def TriS (cal : Cal) (k : Nat) : Prop := ∀ ds, Crowd ds → cal k [crowdD ds] = some (crowdD (tsI (sizesI ds)), [crowdD ds])
def e31L (ka : Nat) : E := .lc (.v .bo 2) (.tp (.cons (.nm 2) (.cons (.nm 3) .nil))) (.fc ka (.cons (.lend 0) .nil)) (.bl true) [2, 3]
def e31U : E := .usort (.v .bo 4) (.nm 4) (.v .bo 1) [4]
def e31P : E := .tup (.cons (.v .bo 2) (.cons (.meth .count (.v .bo 1) (.v .bo 2)) .nil))
theorem tri_run {p : Pg} {cal : Cal} {W kc ka : Nat} (hc : CheckS cal kc) (ha : AllS cal ka) {ds : List (Int × Int)} (cr : Crowd ds) : runF p W cal ⟨"triangle_sizes", 1, n_triangle_sizes, b_triangle_sizes kc ka⟩ [crowdD ds] = some (crowdD (tsI (sizesI ds)), [crowdD ds]) := by
  have few := sizes_few cr.hi
  let ρ0 : En := [some (crowdD ds), none, none, none, none]
  have s1 := ev_check (gl := p.gs) (W := W) hc cr (ρ := ρ0) rfl
  have lc : evE p.gs cal (e31L ka) ρ0 = some (.lst .own (((sizesI ds).filter fun _ => true).map .int), ρ0) := ev_sizes (gl := p.gs) (elt := .v .bo 2) (c := .bl true) (k := fun _ => true) (p := 2) (p' := 3) ha cr (ρ := ρ0) rfl rfl rfl (by decide) (fun s ρ' g => by simp [evE, g, look]) (fun s ρ' g => by rw [evE])
  rw [List.filter_eq_self.mpr (fun _ _ => rfl)] at lc
  generalize hns : sizesI ds = ns at lc few
  have bi := bor_ints ns
  have fi := frz_ints ns
  have lk := (stillL _ fi).2.1
  let ρ : En := [some (crowdD ds), some (.lst .own (ns.map .int)), none, none, none]
  have s2 : evS p.gs cal W (.asg (.nm 1) (e31L ka)) ρ0 = some (.nx ρ) := by
    rw [evS, lc]
    simp [bindT, bor, bi, ρ0, ρ]
  have v1 : ∀ ρ' : En, ρ'[1]? = some (some (.lst .own (ns.map .int))) → evE p.gs cal (.v .bo 1) ρ' = some (.lst .bor (ns.map .int), ρ') := by
    intro ρ' g
    rw [evE]
    simp only [g, look, lk]
  have it : evI p.gs cal (.v .bo 1) ρ = some (ns.map .int, .lst .bor (ns.map .int), ρ) := by
    have e : itOf (.v .bo 1) (.lst .bor (ns.map .int)) = some (ns.map .int, .lst .bor (ns.map .int)) := by simp only [itOf, seqOf, fi, if_true]
    unfold evI
    rw [v1 ρ rfl]
    simp only [e]
  have hL : lcL (unF p.gs cal (.v .bo 4) (.nm 4) [4]) (ns.map .int) (wipeD ρ [4]) = some ((ns.map D.int).flatMap (fun x => [x]), ρ) := by
    refine lcL_flat fun x hx => ?_
    obtain ⟨q, hq, rfl⟩ := List.mem_map.mp hx
    simp [unF, wipeD, bindT, bor, evE, look, ρ]
  have us := ev_usort (gl := p.gs) (cal := cal) (key := .v .bo 4) (t := .nm 4) (vs := [4]) (ns := addK [] ns) it rfl (by simp; omega) (by simp [tgs]) hL (by rw [List.flatMap_singleton']; exact usS_ints ns)
  have rs : restore ρ [4] ρ = ρ := rfl
  rw [rs] at us
  generalize hsr : isort (addK [] ns) = sr at us
  have srl : sr.length ≤ 220 := by
    have := addK_lenI ns []
    rw [← hsr, isort_len]
    simp at this
    omega
  have fs := frz_ints sr
  have itu : evI p.gs cal e31U ρ = some (sr.map .int, .lst .own (sr.map .int), ρ) := by
    have e : itOf e31U (.lst .own (sr.map .int)) = some (sr.map .int, .lst .own (sr.map .int)) := by simp only [e31U, itOf, seqOf, fs, if_true]
    unfold evI
    have us' : evE p.gs cal e31U ρ = some (.lst .own (sr.map .int), ρ) := us
    rw [us']
    simp only [e]
  have bs := bor_ints sr
  let g : D → D := fun x => match x with | .int s => dotD (s, (ns.count s : Int)) | _ => .non
  have lm := ev_map (gl := p.gs) (cal := cal) (elt := e31P) (p := 2) (ρ := ρ) (g := g) itu (by simp only [bor, bs]; rfl) (by simp; omega) (by simp [ρ]) (fun d e => by simp [ρ] at e) (fun x hx => by obtain ⟨s, _, rfl⟩ := List.mem_map.mp hx; rfl) (fun x hx => by
    obtain ⟨s, _, rfl⟩ := List.mem_map.mp hx
    refine ⟨?_, rfl⟩
    have g1 : (ρ.set 2 (some (.int s)))[1]? = some (some (.lst .own (ns.map .int))) := rfl
    have g2 : (ρ.set 2 (some (.int s)))[2]? = some (some (.int s)) := rfl
    have v2 : evE p.gs cal (.v .bo 2) (ρ.set 2 (some (.int s))) = some (.int s, ρ.set 2 (some (.int s))) := by
      rw [evE]
      simp only [g2, look]
    have m : evE p.gs cal (.meth .count (.v .bo 1) (.v .bo 2)) (ρ.set 2 (some (.int s))) = some (.int (ns.count s : Int), ρ.set 2 (some (.int s))) := by
      rw [evE, v1 _ g1]
      simp only [v2, isP, meS, intsOf_ints, Option.map_some]
      simp
    unfold e31P
    rw [evE, ev_cons2 v2 m rfl rfl]
    rfl)
  have mp : (sr.map D.int).map g = (tsI ns).map dotD := by
    unfold tsI
    rw [hsr, List.map_map, List.map_map]
    rfl
  rw [mp] at lm
  have body : evS p.gs cal W (b_triangle_sizes kc ka) ρ0 = some (.rt (crowdD (tsI ns)) ρ) := by
    show evS p.gs cal W (.cons _ (.cons (.asg (.nm 1) (e31L ka)) (.cons (.ret (.bi .tuple (.cons (.lc e31P (.nm 2) e31U (.bl true) [2]) .nil))) .nil))) _ = _
    rw [ev_cons s1, ev_cons s2, ev_cons_rt (ev_ret (ev_tupl lm) (bor_crowd _))]
  simp only [ρ0, ρ] at body
  unfold runF
  simp [n_triangle_sizes, bor_crowd, borL, body, finL, frz_crowd]
end Pur

namespace Pur
open PySem
/-! the law: its parts -/
mutual
theorem eqv_same : ∀ (d : D) {n : Nat}, lay n d = true → PyData.eqv (py d) (py d) = true
  | .non, _, _ => by simp [py, PyData.eqv]
  | .bl b, _, _ => by simp [py, PyData.eqv]
  | .int i, _, _ => by simp [py, PyData.eqv]
  | .str s, _, _ => by simp [py, PyData.eqv]
  | .rs _, n, h => by cases n <;> simp [lay] at h
  | .tup xs, 0, h => by simp [lay] at h
  | .tup xs, n + 1, h => by
    rw [lay] at h
    simp only [py, PyData.eqv]
    exact eqvL_same xs h
  | .lst _ xs, 0, h => by simp [lay] at h
  | .lst _ xs, n + 1, h => by
    rw [lay] at h
    simp only [py, PyData.eqv]
    exact eqvL_same xs h
theorem eqvL_same : ∀ (xs : List D) {n : Nat}, layL n xs = true → PyData.eqvAll (pyL xs) (pyL xs) = true
  | [], _, _ => by simp [pyL, PyData.eqvAll]
  | x :: xs, n, h => by
    simp only [layL, Bool.and_eq_true] at h
    simp only [pyL, PyData.eqvAll, eqv_same x h.1, eqvL_same xs h.2, Bool.and_self]
end
theorem eqS_same3 (n : Int) (L : List (Int × Int)) : eqS (.lst .own [.int n, .int n, crowdD L]) (.lst .own [.int n, .int n, crowdD L]) = some true := by
  have l : lay 60 (.lst .own [.int n, .int n, crowdD L]) = true := by
    show layL 59 _ = true
    simp only [layL, lay, crowdD, lay_dots]
    rfl
  have e : eqD (.lst .own [.int n, .int n, crowdD L]) (.lst .own [.int n, .int n, crowdD L]) = true := eqv_same _ l
  unfold eqS
  simp only [l, e]
  rfl
theorem eqS_same2 (n : Int) : eqS (.lst .own [.int n, .int n]) (.lst .own [.int n, .int n]) = some true := by
  have l : lay 60 (.lst .own [.int n, .int n]) = true := rfl
  have e : eqD (.lst .own [.int n, .int n]) (.lst .own [.int n, .int n]) = true := eqv_same _ l
  unfold eqS
  simp only [l, e]
  rfl
mutual
theorem pdr : ∀ d : D, pdEq (py d) (py d) = true
  | .non => by simp [py, pdEq]
  | .bl b => by simp [py, pdEq]
  | .int i => by simp [py, pdEq]
  | .str s => by simp [py, pdEq]
  | .rs x => by simp [py, pdEq]
  | .tup xs => by simp only [py, pdEq]; exact pdrL xs
  | .lst _ xs => by simp only [py, pdEq]; exact pdrL xs
theorem pdrL : ∀ ds : List D, pdEqL (pyL ds) (pyL ds) = true
  | [] => by simp [pyL, pdEqL]
  | d :: ds => by simp only [pyL, pdEqL, pdr d, pdrL ds]; rfl
end
theorem ne_same (d : D) : cmpS .ne (.rs (py d)) (.rs (py d)) = some (.bl false) := by
  simp [cmpS, eqS, pdr]
theorem ifs_nx {gl : List (Str × D)} {cal : Cal} {W : Nat} {c : E} {s : S} {ρ : En} (h : evE gl cal c ρ = some (.bl false, ρ)) : evS gl cal W (.ifs c s .nil) ρ = some (.nx ρ) := by
  rw [evS, h]
  simp only [evS]
theorem ev_frz {gl : List (Str × D)} {cal : Cal} {i : Nat} {d : D} {ρ : En} (h : ρ[i]? = some (some d)) (f : frz d = true) : evE gl cal (.v .bo i) ρ = some (d, ρ) := by
  rw [evE]
  simp only [h, (still1 d f).2.1]
theorem ev_repr {gl : List (Str × D)} {cal : Cal} {e : E} {d : D} {ρ : En} (h : evE gl cal e ρ = some (d, ρ)) (l : lay 60 d = true) (r : rsz d ≤ 1000000) : evE gl cal (.bi .repr (.cons e .nil)) ρ = some (.rs (py d), ρ) := by
  have rp : biS .repr [d] = some (.rs (py d)) := by simp only [biS, reprS, l, r, decide_true]; rfl
  have a : evA gl cal (.cons e .nil) ρ = some ([d], ρ) := by
    rw [evA, h]
    simp [evA, isP]
  rw [evE, a]
  simp only [rp]
  rfl
theorem asg_nm {gl : List (Str × D)} {cal : Cal} {W i : Nat} {e : E} {d : D} {ρ ρ1 : En} (h : evE gl cal e ρ = some (d, ρ1)) (hb : bor d = false) (hi : i < ρ1.length) : evS gl cal W (.asg (.nm i) e) ρ = some (.nx (ρ1.set i (some d))) := by
  rw [evS, h]
  simp [bindT, hi, hb]
theorem ev_lotsS {gl : List (Str × D)} {cal : Cal} {k c : Nat} (h : LotsS cal k) {ds : List (Int × Int)} (hn : ds.length ≤ 60) {ρ : En} (h0 : ρ[c]? = some (some (crowdD ds))) :
    evE gl cal (.fc k (.cons (.bi .len (.cons (.v .bo c) .nil)) (.cons (.int 3) .nil))) ρ = some (.lst .own ((lotsI ds.length 3).map lotD), ρ) := by
  have lots' : cal k [.int ds.length, .int 3] = some (.lst .own ((lotsI ds.length 3).map lotD), [.int ds.length, .int 3]) := h ds.length 3 (by omega) (by omega) (by omega)
  have hL : lendOf (.bi .len (.cons (.v .bo c) .nil)) = none := rfl
  have bl := (stillL _ (frz_lots (lotsI ds.length 3))).2.2
  rw [evE, evF]
  simp only [hL, len_crowd h0]
  simp [evF, evE, lendOf, lends, bor, fillL, giveL, lots', bl]
def l31E (sc bag : D) (x2 x3 x4 x5 x6 x7 x8 x9 : Option D) : En := [some sc, some bag, x2, x3, x4, x5, x6, x7, x8, x9, none, none, none, none, none]
def e31D (ka : Nat) : E := .bi .len (.cons (.lc (.int 1) (.tp (.cons (.nm 10) (.cons (.nm 11) (.cons (.nm 12) .nil)))) (.v .bo 4) (.cmp .eq (.bin .mod (.bi .int (.cons (.fc ka (.cons (.idx (.v .bo 2) (.v .bo 10)) (.cons (.idx (.v .bo 2) (.v .bo 11)) (.cons (.idx (.v .bo 2) (.v .bo 12)) .nil)))) .nil)) (.int 2)) (.int 0)) [10, 11, 12]) .nil)
theorem ev_due {gl : List (Str × D)} {cal : Cal} {ka : Nat} (ha : AreaS cal ka) {ds : List (Int × Int)} (cr : Crowd ds) {sc bag : D} {x3 x5 x6 x7 x8 x9 : Option D} :
    evE gl cal (e31D ka) (l31E sc bag (some (crowdD ds)) x3 (some (.lst .own ((lotsI ds.length 3).map lotD))) x5 x6 x7 x8 x9) =
      some (.int (evenL ds).length, l31E sc bag (some (crowdD ds)) x3 (some (.lst .own ((lotsI ds.length 3).map lotD))) x5 x6 x7 x8 x9) := by
  have hi := cr.hi
  generalize hr : l31E sc bag (some (crowdD ds)) x3 (some (.lst .own ((lotsI ds.length 3).map lotD))) x5 x6 x7 x8 x9 = ρ
  have fl := frz_lots (lotsI ds.length 3)
  have lk := (stillL _ fl).2.1
  have ll := lots3_len (ds := ds) (by omega)
  have g4 : ρ[4]? = some (some (.lst .own ((lotsI ds.length 3).map lotD))) := by rw [← hr]; rfl
  have it : evI gl cal (.v .bo 4) ρ = some ((lotsI ds.length 3).map lotD, .lst .bor ((lotsI ds.length 3).map lotD), ρ) := by
    have e : itOf (.v .bo 4) (.lst .bor ((lotsI ds.length 3).map lotD)) = some ((lotsI ds.length 3).map lotD, .lst .bor ((lotsI ds.length 3).map lotD)) := by simp only [itOf, seqOf, fl, if_true]
    unfold evI
    rw [evE]
    simp only [g4, look, lk, e]
  have lc := ev_filter3 (gl := gl) (cal := cal) (elt := .int 1) (c := .cmp .eq (.bin .mod (.bi .int (.cons (.fc ka (.cons (.idx (.v .bo 2) (.v .bo 10)) (.cons (.idx (.v .bo 2) (.v .bo 11)) (.cons (.idx (.v .bo 2) (.v .bo 12)) .nil)))) .nil)) (.int 2)) (.int 0)) (p := 10) (q := 11) (r := 12) (ρ := ρ) (k := twoK ds) (g := fun _ => .int 1) it (by simp [isP]) (by omega) (by rw [← hr]; rfl) (by rw [← hr]; rfl) (by rw [← hr]; rfl) (by decide) (by decide) (by decide) three_l (fun i j m h => by
    obtain ⟨i', j', m', e', h0, h1, h2, h3⟩ := of_lots3 h
    cases e'
    generalize hr2 : ((ρ.set 10 (some (D.int i))).set 11 (some (.int j))).set 12 (some (.int m)) = ρ'
    have g2 : ρ'[2]? = some (some (crowdD ds)) := by rw [← hr2, ← hr]; rfl
    have g10 : ρ'[10]? = some (some (.int i)) := by rw [← hr2, ← hr]; rfl
    have g11 : ρ'[11]? = some (some (.int j)) := by rw [← hr2, ← hr]; rfl
    have g12 : ρ'[12]? = some (some (.int m)) := by rw [← hr2, ← hr]; rfl
    have k1 := idx_crowd ds (j := i) h0 (by omega)
    have k2 := idx_crowd ds (j := j) (by omega) (by omega)
    have k3 := idx_crowd ds (j := m) (by omega) h3
    have m1 := near_far (cr.far _ (at_mem (ds := ds) (j := i) h0 (by omega)))
    have m2 := near_far (cr.far _ (at_mem (ds := ds) (j := j) (by omega) (by omega)))
    have e := ha (atQ ds i) (atQ ds j) (atQ ds m) m1 m2
    have ar : evE gl cal (.fc ka (.cons (.idx (.v .bo 2) (.v .bo 10)) (.cons (.idx (.v .bo 2) (.v .bo 11)) (.cons (.idx (.v .bo 2) (.v .bo 12)) .nil)))) ρ' = some (.int (areaI (atQ ds i) (atQ ds j) (atQ ds m)), ρ') := by
      simp [evE, evF, g2, g10, g11, g12, lendOf, lends, look, look_crowd, bor_crowd, bor, isP, k1, k2, k3, bor_dot, fillL, giveL, e]
    have a1 : evA gl cal (.cons (.fc ka (.cons (.idx (.v .bo 2) (.v .bo 10)) (.cons (.idx (.v .bo 2) (.v .bo 11)) (.cons (.idx (.v .bo 2) (.v .bo 12)) .nil)))) .nil) ρ' = some ([.int (areaI (atQ ds i) (atQ ds j) (atQ ds m))], ρ') := by
      rw [evA, ar]
      simp [evA, bor]
    have a2 : evE gl cal (.bin .mod (.bi .int (.cons (.fc ka (.cons (.idx (.v .bo 2) (.v .bo 10)) (.cons (.idx (.v .bo 2) (.v .bo 11)) (.cons (.idx (.v .bo 2) (.v .bo 12)) .nil)))) .nil)) (.int 2)) ρ' = some (.int ((areaI (atQ ds i) (atQ ds j) (atQ ds m)).fmod 2), ρ') := by
      rw [evE, evE, a1]
      simp [biS, intS, evE, bor, binS]
    rw [evE, a2]
    simp only [evE, bor, cmp_eq_int, even_two]
    rfl) (fun i j m _ _ => ⟨by rw [evE], rfl⟩)
  have bo : ∀ L : List (List Int), borL (L.map fun _ => D.int 1) = false := by
    intro L
    induction L with
    | nil => rfl
    | cons x L ih => simp only [List.map_cons, borL, bor, ih]; rfl
  have ls : biS .len [.lst .own (((lotsI ds.length 3).filter (twoK ds)).map fun _ => D.int 1)] = some (.int (evenL ds).length) := by
    simp [biS, lenS, evenL]
  unfold e31D
  rw [evE, evA, lc]
  simp only [evA, bor, bo]
  show Option.map _ (biS .len _) = _
  rw [ls]
  rfl
/-- the greatest of a crowd's places -/
def mxJ (w : Int × Int) : Int := if absI w.2 > absI w.1 then absI w.2 else absI w.1
theorem mxJ_far {w : Int × Int} (h : mxJ w ≤ 10000) : Far1 w := by
  unfold mxJ absI at h
  simp only [Far1]
  split at h <;> split at h <;> split at h <;> omega
theorem ev_mx {gl : List (Str × D)} {cal : Cal} {c p p' : Nat} {A B : E} {F : Int × Int → Int × Int} {ds : List (Int × Int)} (hl : 1 ≤ ds.length) (hn : ds.length ≤ 1000) {ρ : En} (h0 : ρ[c]? = some (some (crowdD ds))) (hp : ρ[p]? = some none) (hp' : ρ[p']? = some none) (hne : p ≠ p')
    (hA : ∀ z ∈ ds, evE gl cal A ((ρ.set p (some (.int z.1))).set p' (some (.int z.2))) = some (.int (absI (F z).1), (ρ.set p (some (.int z.1))).set p' (some (.int z.2))))
    (hB : ∀ z ∈ ds, evE gl cal B ((ρ.set p (some (.int z.1))).set p' (some (.int z.2))) = some (.int (absI (F z).2), (ρ.set p (some (.int z.1))).set p' (some (.int z.2)))) :
    ∃ m, evE gl cal (.bi .max (.cons (.lc (.bi .max (.cons A (.cons B .nil))) (.tp (.cons (.nm p) (.cons (.nm p') .nil))) (.v .bo c) (.bl true) [p, p']) .nil)) ρ = some (.int m, ρ) ∧ ∀ z ∈ ds, mxJ (F z) ≤ m := by
  have lc := ev_map2 (gl := gl) (cal := cal) (elt := .bi .max (.cons A (.cons B .nil))) (p := p) (p' := p') (g := fun z => .int (mxJ (F z))) (it_cr h0) (by simp [bor_crowd]) (by omega) hp hp' hne (fun z hz => by
    refine ⟨?_, rfl⟩
    rw [evE, ev_cons2 (hA z hz) (hB z hz) rfl rfl]
    simp only [biS, maxS, mxJ, Option.map_some])
  have mp : ds.map (fun z => D.int (mxJ (F z))) = (ds.map fun z => mxJ (F z)).map .int := by rw [List.map_map]; rfl
  rw [mp] at lc
  have bl : borL ((ds.map fun z => mxJ (F z)).map D.int) = false := bor_ints _
  cases hd : ds.map fun z => mxJ (F z) with
  | nil =>
    rw [List.map_eq_nil_iff.mp hd] at hl
    simp at hl
  | cons n ns =>
    rw [hd] at lc bl
    refine ⟨maxL n ns, ?_, fun z hz => maxL_all ns n _ (by rw [← hd]; exact List.mem_map.mpr ⟨z, hz, rfl⟩)⟩
    have io : intsOf ((n :: ns).map D.int) = some (n :: ns) := intsOf_ints _
    have mx : maxS [.lst .own ((n :: ns).map D.int)] = some (.int (maxL n ns)) := by simp only [maxS, io]
    have a : evA gl cal (.cons (.lc (.bi .max (.cons A (.cons B .nil))) (.tp (.cons (.nm p) (.cons (.nm p') .nil))) (.v .bo c) (.bl true) [p, p']) .nil) ρ = some ([.lst .own ((n :: ns).map D.int)], ρ) := by
      rw [evA, lc]
      simp only [evA, bor, bl]
      rfl
    rw [evE, a]
    simp only [biS, mx]
    rfl
end Pur

namespace Pur
open PySem
/-! the law: a turn of its loop -/
def e31T (a b : E) : E := .bi .repr (.cons (.lst (.cons a (.cons b .nil))) .nil)
theorem ev_two {gl : List (Str × D)} {cal : Cal} {a b : E} {n : Int} {ρ : En} (hn : n.natAbs < 10 ^ 60) (ha : evE gl cal a ρ = some (.int n, ρ)) (hb : evE gl cal b ρ = some (.int n, ρ)) : evE gl cal (e31T a b) ρ = some (.rs (py (.lst .own [.int n, .int n])), ρ) := by
  have l : evE gl cal (.lst (.cons a (.cons b .nil))) ρ = some (.lst .own [.int n, .int n], ρ) := by
    rw [evE, ev_cons2 ha hb rfl rfl]
    simp [borL, bor]
  refine ev_repr l rfl ?_
  simp only [rsz, rszL, if_pos hn]
  omega
theorem even_few {ds : List (Int × Int)} (h : ds.length ≤ 12) : (evenL ds).length ≤ 220 := by
  refine Nat.le_trans (List.length_filter_le _ _) ?_
  exact lots3_220 ⟨ds.length, by omega⟩
def e31O (km kb : Nat) : E := .or_ (.cons (.cmp .ne (e31T (.fc km (.cons (.lend 2) .nil)) (.fc kb (.cons (.lend 2) .nil))) (e31T (.v .bo 5) (.v .bo 5))) (.cons (.and_ (.cons (.cmp .gt (.bi .len (.cons (.v .bo 2) .nil)) (.int 4)) (.cons (.cmp .eq (.v .bo 5) (.int 0)) .nil))) .nil))
theorem or31 {gl : List (Str × D)} {cal : Cal} {km kb : Nat} (hm : EvenS cal km) (hb : EvenS cal kb) {ds : List (Int × Int)} (cr : Crowd ds) {ρ : En} (h2 : ρ[2]? = some (some (crowdD ds))) (h5 : ρ[5]? = some (some (.int (evenL ds).length))) :
    evE gl cal (e31O km kb) ρ = some (.bl false, ρ) := by
  have few := even_few cr.hi
  have nf : ((evenL ds).length : Int).natAbs < 10 ^ 60 := Nat.lt_of_le_of_lt (show ((evenL ds).length : Int).natAbs ≤ 220 by omega) (by decide)
  have a1 := ev_one (gl := gl) h2 (frz_crowd ds).1 (hm ds cr) rfl
  have a2 := ev_one (gl := gl) h2 (frz_crowd ds).1 (hb ds cr) rfl
  have v5 := ev_frz (gl := gl) (cal := cal) (i := 5) (ρ := ρ) h5 rfl
  have r1 := ev_two nf a1 a2
  have r2 := ev_two nf v5 v5
  have c1 : evE gl cal (.cmp .ne (e31T (.fc km (.cons (.lend 2) .nil)) (.fc kb (.cons (.lend 2) .nil))) (e31T (.v .bo 5) (.v .bo 5))) ρ = some (.bl false, ρ) := by
    rw [evE, r1]
    simp only [r2, bor, ne_same]
    rfl
  have c2 : evE gl cal (.and_ (.cons (.cmp .gt (.bi .len (.cons (.v .bo 2) .nil)) (.int 4)) (.cons (.cmp .eq (.v .bo 5) (.int 0)) .nil))) ρ = some (.bl false, ρ) := by
    have g : evE gl cal (.cmp .gt (.bi .len (.cons (.v .bo 2) .nil)) (.int 4)) ρ = some (.bl (decide (4 < (ds.length : Int))), ρ) := by
      rw [evE, len_crowd h2]
      simp only [evE, bor, cmp_gt]
      rfl
    have e : evE gl cal (.cmp .eq (.v .bo 5) (.int 0)) ρ = some (.bl (decide (((evenL ds).length : Int) = 0)), ρ) := by
      rw [evE, v5]
      simp only [evE, bor, cmp_eq_int]
      rfl
    have hA : ∀ b c : E, evAnd gl cal (.cons b (.cons c .nil)) ρ = match evE gl cal b ρ with
        | some (.bl true, ρ1) => evAnd gl cal (.cons c .nil) ρ1
        | some (.bl false, ρ1) => some (.bl false, ρ1)
        | _ => none := fun b c => by rw [evAnd]; simp only [isNil]; try rfl
    rw [evE, hA, g]
    by_cases h : (4 : Int) < ds.length
    · rw [decide_eq_true h]
      have ne : evenL ds ≠ [] := five_even (by omega)
      have ne2 : ¬ ((evenL ds).length : Int) = 0 := by
        have := List.length_pos_iff.mpr ne
        omega
      rw [decide_eq_false ne2] at e
      simp only [evAnd, isNil, e]
    · rw [decide_eq_false h]
  unfold e31O
  have hO : ∀ b c : E, evOr gl cal (.cons b (.cons c .nil)) ρ = match evE gl cal b ρ with
      | some (.bl false, ρ1) => evOr gl cal (.cons c .nil) ρ1
      | some (.bl true, ρ1) => some (.bl true, ρ1)
      | _ => none := fun b c => by rw [evOr]; simp only [isNil]; try rfl
  rw [evE, hO, c1]
  simp only [evOr, isNil, c2]
theorem even_mapF {f : Int × Int → Int × Int} {ds : List (Int × Int)} (h : sizesI (ds.map f) = sizesI ds) : (evenL (ds.map f)).length = (evenL ds).length := by
  rw [← even_count, ← even_count, h]
/-- one of the others -/
def OthS (ds os : List (Int × Int)) : Prop := sizesI os = sizesI ds ∧ os.Nodup ∧ os.length = ds.length
theorem oth_even {ds os : List (Int × Int)} (h : OthS ds os) : (evenL os).length = (evenL ds).length := by
  rw [← even_count, ← even_count, h.1]
def e31M (c : Nat) : E := .bi .max (.cons (.lc (.bi .max (.cons (.bi .abs (.cons (.v .bo 13) .nil)) (.cons (.bi .abs (.cons (.v .bo 14) .nil)) .nil))) (.tp (.cons (.nm 13) (.cons (.nm 14) .nil))) (.v .bo c) (.bl true) [13, 14]) .nil)
def b31I (kt km kb : Nat) : S := .cons (.ifs (.cmp .le (e31M 7) (.int 10000)) (.cons (.ifs (.cmp .ne (.lst (.cons (.fc km (.cons (.lend 7) .nil)) (.cons (.fc kb (.cons (.lend 7) .nil)) (.cons (.fc kt (.cons (.lend 7) .nil)) .nil)))) (.lst (.cons (.v .bo 5) (.cons (.v .bo 5) (.cons (.fc kt (.cons (.lend 2) .nil)) .nil))))) (.cons (.ret (.bl false)) .nil) .nil) .nil) .nil) .nil
theorem ev_lst3 {gl : List (Str × D)} {cal : Cal} {a b c : E} {ρ : En} {x y z : D} (ha : evE gl cal a ρ = some (x, ρ)) (hb : evE gl cal b ρ = some (y, ρ)) (hc : evE gl cal c ρ = some (z, ρ)) (h1 : bor x = false) (h2 : bor y = false) (h3 : bor z = false) : evE gl cal (.lst (.cons a (.cons b (.cons c .nil)))) ρ = some (.lst .own [x, y, z], ρ) := by
  have e := ev_cons2 hb hc h2 h3
  have e2 : evA gl cal (.cons a (.cons b (.cons c .nil))) ρ = some ([x, y, z], ρ) := by
    rw [evA, ha]
    simp only [e]
    simp [h1]
  rw [evE, e2]
  simp [borL, h1, h2, h3]
theorem ne_same3 (n : Int) (L : List (Int × Int)) : cmpS .ne (.lst .own [.int n, .int n, crowdD L]) (.lst .own [.int n, .int n, crowdD L]) = some (.bl false) := by
  have e := eqS_same3 n L
  generalize D.lst .own [.int n, .int n, crowdD L] = x at e
  simp only [cmpS, e]
  rfl
theorem oth_step {gl : List (Str × D)} {cal : Cal} {W kt km kb : Nat} (ht : TriS cal kt) (hm : EvenS cal km) (hb : EvenS cal kb) {ds os : List (Int × Int)} (cr : Crowd ds) (ho : OthS ds os) {ρ : En} (h2 : ρ[2]? = some (some (crowdD ds))) (h5 : ρ[5]? = some (some (.int (evenL ds).length))) (h7 : ρ[7]? = some (some (crowdD os))) (h13 : ρ[13]? = some none) (h14 : ρ[14]? = some none) :
    evS gl cal W (b31I kt km kb) ρ = some (.nx ρ) := by
  have hi := cr.hi
  have lo := cr.lo
  have ol := ho.2.2
  have l13 := (List.getElem?_eq_some_iff.mp h13).1
  have l14 := (List.getElem?_eq_some_iff.mp h14).1
  obtain ⟨m, em, hmx⟩ := ev_mx (gl := gl) (cal := cal) (c := 7) (p := 13) (p' := 14) (A := .bi .abs (.cons (.v .bo 13) .nil)) (B := .bi .abs (.cons (.v .bo 14) .nil)) (F := id) (ds := os) (by omega) (by omega) h7 h13 h14 (by decide) (fun z _ => by
    generalize hr : (ρ.set 13 (some (.int z.1))).set 14 (some (.int z.2)) = ρ'
    have g : ρ'[13]? = some (some (.int z.1)) := by rw [← hr, List.getElem?_set_ne (by decide), List.getElem?_set_self l13]
    simp [evE, evA, g, look, bor, isP, biS, absS, absI]) (fun z _ => by
    generalize hr : (ρ.set 13 (some (.int z.1))).set 14 (some (.int z.2)) = ρ'
    have g : ρ'[14]? = some (some (.int z.2)) := by rw [← hr, List.getElem?_set_self (by rw [List.length_set]; exact l14)]
    simp [evE, evA, g, look, bor, isP, biS, absS, absI])
  have c : evE gl cal (.cmp .le (e31M 7) (.int 10000)) ρ = some (.bl (decide (m ≤ 10000)), ρ) := by
    unfold e31M
    rw [evE, em]
    simp only [evE, bor, cmp_le]
    rfl
  unfold b31I
  refine (ev_cons ?_).trans (by rw [evS])
  rw [evS, c]
  by_cases h : m ≤ 10000
  · rw [decide_eq_true h]
    have co : Crowd os := ⟨ho.2.1, fun z hz => mxJ_far (Int.le_trans (hmx z hz) h), by omega, by omega⟩
    have a1 := ev_one (gl := gl) h7 (frz_crowd os).1 (hm os co) rfl
    have a2 := ev_one (gl := gl) h7 (frz_crowd os).1 (hb os co) rfl
    have a3 := ev_one (gl := gl) h7 (frz_crowd os).1 (ht os co) (bor_crowd _)
    have a4 := ev_one (gl := gl) h2 (frz_crowd ds).1 (ht ds cr) (bor_crowd _)
    rw [oth_even ho] at a1 a2
    rw [ho.1] at a3
    have v5 := ev_frz (gl := gl) (cal := cal) (i := 5) (ρ := ρ) h5 rfl
    have L := ev_lst3 a1 a2 a3 rfl rfl (bor_crowd _)
    have R := ev_lst3 v5 v5 a4 rfl rfl (bor_crowd _)
    have ne := ne_same3 ((evenL ds).length : Nat) (tsI (sizesI ds))
    have c2 : evE gl cal (.cmp .ne (.lst (.cons (.fc km (.cons (.lend 7) .nil)) (.cons (.fc kb (.cons (.lend 7) .nil)) (.cons (.fc kt (.cons (.lend 7) .nil)) .nil)))) (.lst (.cons (.v .bo 5) (.cons (.v .bo 5) (.cons (.fc kt (.cons (.lend 2) .nil)) .nil))))) ρ = some (.bl false, ρ) := by
      have b : bor (.lst .own [.int ((evenL ds).length : Nat), .int ((evenL ds).length : Nat), crowdD (tsI (sizesI ds))]) = false := by
        simp only [bor, borL, bor_crowd]
        rfl
      generalize D.lst .own [.int ((evenL ds).length : Nat), .int ((evenL ds).length : Nat), crowdD (tsI (sizesI ds))] = x at L R ne b
      rw [evE, L]
      simp only [R, b, ne]
      rfl
    show evS gl cal W _ ρ = _
    rw [ev_cons (ifs_nx c2), evS]
  · rw [decide_eq_false h]
    simp only [evS]
end Pur

namespace Pur
open PySem
/-! the law: a turn of its loop, whole -/
theorem nodup_map {f : Int × Int → Int × Int} (hf : ∀ a b, f a = f b → a = b) {ds : List (Int × Int)} (h : ds.Nodup) : (ds.map f).Nodup := List.Pairwise.map _ (fun a b hab e => hab (hf a b e)) h
theorem oth_mir {ds : List (Int × Int)} (cr : Crowd ds) : OthS ds (ds.map mirI) := ⟨sizes_mir ds, nodup_map (fun a b e => by
  simp only [mirI, Prod.mk.injEq] at e
  exact Prod.ext (by omega) e.2) cr.nd, by simp⟩
theorem oth_she (s : Int) {ds : List (Int × Int)} (cr : Crowd ds) : OthS ds (ds.map (sheI s)) := ⟨sizes_she s ds, nodup_map (fun a b e => by
  simp only [sheI, Prod.mk.injEq] at e
  obtain ⟨e1, e2⟩ := e
  rw [e1] at e2
  exact Prod.ext e1 (by omega)) cr.nd, by simp⟩
theorem oth_mov (q : Int × Int) {ds : List (Int × Int)} (cr : Crowd ds) : OthS ds (moveI ds q) := ⟨sizes_mov q ds, nodup_map (fun a b e => by
  simp only [Prod.mk.injEq] at e
  exact Prod.ext (by omega) (by omega)) cr.nd, by simp [moveI]⟩
def e31S : E := .bi .tuple (.cons (.lc (.tup (.cons (.v .bo 13) (.cons (.bin .add (.v .bo 14) (.bin .mul (.v .bo 8) (.v .bo 13))) .nil))) (.tp (.cons (.nm 13) (.cons (.nm 14) .nil))) (.v .bo 2) (.bl true) [13, 14]) .nil)
theorem ev_she {gl : List (Str × D)} {cal : Cal} {s : Int} (h1 : -3 ≤ s) (h2 : s ≤ 3) {ds : List (Int × Int)} (cr : Crowd ds) {ρ : En} (g2 : ρ[2]? = some (some (crowdD ds))) (g8 : ρ[8]? = some (some (.int s))) (g13 : ρ[13]? = some none) (g14 : ρ[14]? = some none) : evE gl cal e31S ρ = some (crowdD (ds.map (sheI s)), ρ) := by
  have hi := cr.hi
  have l13 := (List.getElem?_eq_some_iff.mp g13).1
  have l14 := (List.getElem?_eq_some_iff.mp g14).1
  have lc := ev_map2 (gl := gl) (cal := cal) (elt := .tup (.cons (.v .bo 13) (.cons (.bin .add (.v .bo 14) (.bin .mul (.v .bo 8) (.v .bo 13))) .nil))) (p := 13) (p' := 14) (ρ := ρ) (g := fun q => dotD (sheI s q)) (it_cr g2) (by simp [bor_crowd]) (by omega) g13 g14 (by decide) (fun q _ => by
    refine ⟨?_, rfl⟩
    generalize hr : (ρ.set 13 (some (.int q.1))).set 14 (some (.int q.2)) = ρ'
    have a13 : ρ'[13]? = some (some (.int q.1)) := by rw [← hr, List.getElem?_set_ne (by decide), List.getElem?_set_self l13]
    have a14 : ρ'[14]? = some (some (.int q.2)) := by rw [← hr, List.getElem?_set_self (by rw [List.length_set]; exact l14)]
    have a8 : ρ'[8]? = some (some (.int s)) := by rw [← hr, List.getElem?_set_ne (by decide), List.getElem?_set_ne (by decide)]; exact g8
    have mu : mulOk s q.1 = true := mulOk_l (by simp only [small64, decide_eq_true_eq]; omega)
    simp [evE, evA, a13, a14, a8, look, bor, borL, isP, binS, addS, mu, sheI, dotD])
  have mp : ds.map (fun q => dotD (sheI s q)) = (ds.map (sheI s)).map dotD := by simp [Function.comp_def]
  rw [mp] at lc
  exact ev_tupl lc
theorem bor_crowds : ∀ L : List (List (Int × Int)), borL (L.map crowdD) = false ∧ frzL (L.map crowdD) = true ∧ shareL (L.map crowdD) = L.map crowdD
  | [] => ⟨rfl, rfl, rfl⟩
  | x :: L => by
    obtain ⟨a, b, c⟩ := bor_crowds L
    obtain ⟨h1, h2, h3, h4⟩ := frz_crowd x
    exact ⟨by simp only [List.map_cons, borL, h2, a]; rfl, by simp only [List.map_cons, frzL, h1, b]; rfl, by simp only [List.map_cons, shareL, h4, c]⟩
def e31N : E := .bi .max (.cons (.lc (.bi .max (.cons (.bi .abs (.cons (.bin .add (.v .bo 13) (.idx (.v .bo 9) (.int 0))) .nil)) (.cons (.bi .abs (.cons (.bin .add (.v .bo 14) (.idx (.v .bo 9) (.int 1))) .nil)) .nil))) (.tp (.cons (.nm 13) (.cons (.nm 14) .nil))) (.v .bo 2) (.bl true) [13, 14]) .nil)
def s31A (kv : Nat) : S := .ifs (.cmp .le e31N (.int 10000)) (.cons (.app 6 (.fc kv (.cons (.lend 2) (.cons (.lend 9) .nil)))) .nil) .nil
theorem ev_s31A {gl : List (Str × D)} {cal : Cal} {W kv : Nat} (hv : MovedS cal kv) {ds : List (Int × Int)} (cr : Crowd ds) {q : Int × Int} (hq : Far1 q) {sc bag : D} {x3 x4 x5 x7 x8 : Option D} {oss : List (List (Int × Int))} (hl : oss.length ≤ 100) (ho : ∀ os ∈ oss, OthS ds os) :
    ∃ oss' : List (List (Int × Int)), evS gl cal W (s31A kv) (l31E sc bag (some (crowdD ds)) x3 x4 x5 (some (.lst .own (oss.map crowdD))) x7 x8 (some (dotD q))) = some (.nx (l31E sc bag (some (crowdD ds)) x3 x4 x5 (some (.lst .own (oss'.map crowdD))) x7 x8 (some (dotD q)))) ∧ ∀ os ∈ oss', OthS ds os := by
  have hi := cr.hi
  have lo := cr.lo
  generalize hr0 : l31E sc bag (some (crowdD ds)) x3 x4 x5 (some (.lst .own (oss.map crowdD))) x7 x8 (some (dotD q)) = ρ
  have g2 : ρ[2]? = some (some (crowdD ds)) := by rw [← hr0]; rfl
  have g9 : ρ[9]? = some (some (dotD q)) := by rw [← hr0]; rfl
  have g6 : ρ[6]? = some (some (.lst .own (oss.map crowdD))) := by rw [← hr0]; rfl
  have g13 : ρ[13]? = some none := by rw [← hr0]; rfl
  have g14 : ρ[14]? = some none := by rw [← hr0]; rfl
  have l13 := (List.getElem?_eq_some_iff.mp g13).1
  have l14 := (List.getElem?_eq_some_iff.mp g14).1
  obtain ⟨m, em, hmx⟩ := ev_mx (gl := gl) (cal := cal) (c := 2) (p := 13) (p' := 14) (A := .bi .abs (.cons (.bin .add (.v .bo 13) (.idx (.v .bo 9) (.int 0))) .nil)) (B := .bi .abs (.cons (.bin .add (.v .bo 14) (.idx (.v .bo 9) (.int 1))) .nil)) (F := fun z => (z.1 + q.1, z.2 + q.2)) (ds := ds) (by omega) (by omega) g2 g13 g14 (by decide) (fun z _ => by
    generalize hr : (ρ.set 13 (some (.int z.1))).set 14 (some (.int z.2)) = ρ'
    have a13 : ρ'[13]? = some (some (.int z.1)) := by rw [← hr, List.getElem?_set_ne (by decide), List.getElem?_set_self l13]
    have a9 : ρ'[9]? = some (some (dotD q)) := by rw [← hr, List.getElem?_set_ne (by decide), List.getElem?_set_ne (by decide)]; exact g9
    simp [evE, evA, a13, a9, look, look_dot, bor, bor_dot, isP, at_dot, binS, addS, biS, absS, absI]) (fun z _ => by
    generalize hr : (ρ.set 13 (some (.int z.1))).set 14 (some (.int z.2)) = ρ'
    have a14 : ρ'[14]? = some (some (.int z.2)) := by rw [← hr, List.getElem?_set_self (by rw [List.length_set]; exact l14)]
    have a9 : ρ'[9]? = some (some (dotD q)) := by rw [← hr, List.getElem?_set_ne (by decide), List.getElem?_set_ne (by decide)]; exact g9
    simp [evE, evA, a14, a9, look, look_dot, bor, bor_dot, isP, at_dot, binS, addS, biS, absS, absI])
  have c : evE gl cal (.cmp .le e31N (.int 10000)) ρ = some (.bl (decide (m ≤ 10000)), ρ) := by
    unfold e31N
    rw [evE, em]
    simp only [evE, bor, cmp_le]
    rfl
  unfold s31A
  rw [evS, c]
  by_cases h : m ≤ 10000
  · rw [decide_eq_true h]
    have mv := hv ds q cr hq (fun z hz => by
      obtain ⟨w, hw, rfl⟩ := List.mem_map.mp hz
      exact mxJ_far (Int.le_trans (hmx w hw) h))
    have e1 : evE gl cal (.fc kv (.cons (.lend 2) (.cons (.lend 9) .nil))) ρ = some (crowdD (moveI ds q), ρ) := by
      simp [evE, evF, lendOf, lends, g2, g9, fillL, giveL, frz_crowd, frz_dot, mv, bor_crowd]
    have bc := (bor_crowds oss).1
    refine ⟨oss ++ [moveI ds q], ?_, fun os hos => ?_⟩
    · have a : evS gl cal W (.app 6 (.fc kv (.cons (.lend 2) (.cons (.lend 9) .nil)))) ρ = some (.nx (ρ.set 6 (some (.lst .own (oss.map crowdD ++ [crowdD (moveI ds q)]))))) := by
        rw [evS]
        simp only [g6, e1]
        rw [if_pos ⟨by rw [List.length_map, sizeLine_val]; omega, bor_crowd _⟩]
      show evS gl cal W _ ρ = _
      rw [ev_cons a, evS, ← hr0, List.map_append]
      rfl
    · rcases List.mem_append.mp hos with h | h
      · exact ho os h
      · rw [List.mem_singleton.mp h]
        exact oth_mov q cr
  · rw [decide_eq_false h]
    refine ⟨oss, ?_, ho⟩
    simp only [evS, hr0]
def b31 (kv kr kt km kb kp ka kd kl kc : Nat) : S := .cons (.asg (.nm 2) (.fc kc (.cons (.lend 1) (.cons (.int 3) (.cons (.int 12) .nil))))) (.cons (.asg (.nm 4) (.fc kl (.cons (.bi .len (.cons (.v .bo 2) .nil)) (.cons (.int 3) .nil)))) (.cons (.asg (.nm 5) (e31D ka)) (.cons (.ifs (e31O km kb) (.cons (.ret (.bl false)) .nil) .nil) (.cons (.asg (.tp (.cons (.nm 8) (.cons (.nm 9) .nil))) (.tup (.cons (.bin .sub (.fc kp (.cons (.lend 1) (.cons (.int 7) .nil))) (.int 3)) (.cons (.fc kd (.cons (.lend 1) (.cons (.int 30) .nil))) .nil)))) (.cons (.asg (.nm 6) (.lst (.cons (.fc kr (.cons (.lend 2) .nil)) (.cons e31S .nil)))) (.cons (s31A kv) (.cons (.for_ (.nm 7) (.v .fz 6) (b31I kt km kb) []) .nil)))))))
theorem l31_step {p : Pg} {cal : Cal} {W kv kr kt km kb kp ka kd kl kc : Nat} (hv : MovedS cal kv) (hr : MirS cal kr) (ht : TriS cal kt) (hm : EvenS cal km) (hb : EvenS cal kb) (hp : PickS cal kp) (ha : AreaS cal ka) (hd : DotS cal kd) (hl : LotsS cal kl) (hc : MakeS cal kc) {sc bag : D} {x2 x3 x4 x5 x6 x7 x8 x9 : Option D} (hbg : IsBag bag) :
    ∃ bag' y2 y4 y5 y6 y7 y8 y9, evS p.gs cal W (b31 kv kr kt km kb kp ka kd kl kc) (l31E sc bag x2 x3 x4 x5 x6 x7 x8 x9) = some (.nx (l31E sc bag' y2 x3 y4 y5 y6 y7 y8 y9)) ∧ IsBag bag' := by
  obtain ⟨ds, b1, e1, hb1, cr0, lo, hi⟩ := hc bag 3 12 hbg (by omega) (by omega) (by omega)
  have cr : Crowd ds := ⟨cr0.nd, cr0.far, by omega, by omega⟩
  have f0 := bag_frz hbg
  have f1 := bag_frz hb1
  have s1 : evS p.gs cal W (.asg (.nm 2) (.fc kc (.cons (.lend 1) (.cons (.int 3) (.cons (.int 12) .nil))))) (l31E sc bag x2 x3 x4 x5 x6 x7 x8 x9) = some (.nx (l31E sc b1 (some (crowdD ds)) x3 x4 x5 x6 x7 x8 x9)) := by
    simp [evS, evE, evF, l31E, lendOf, lends, bor, fillL, giveL, f0, f1, e1, bor_crowd, bindT]
  have bl := (stillL _ (frz_lots (lotsI ds.length 3))).2.2
  have s2 : evS p.gs cal W (.asg (.nm 4) (.fc kl (.cons (.bi .len (.cons (.v .bo 2) .nil)) (.cons (.int 3) .nil)))) (l31E sc b1 (some (crowdD ds)) x3 x4 x5 x6 x7 x8 x9) = some (.nx (l31E sc b1 (some (crowdD ds)) x3 (some (.lst .own ((lotsI ds.length 3).map lotD))) x5 x6 x7 x8 x9)) := by
    have e := ev_lotsS (gl := p.gs) (c := 2) hl (ds := ds) (by omega) (ρ := l31E sc b1 (some (crowdD ds)) x3 x4 x5 x6 x7 x8 x9) rfl
    rw [asg_nm e (by simp only [bor, bl]; rfl) (by simp [l31E])]
    rfl
  have s3 : evS p.gs cal W (.asg (.nm 5) (e31D ka)) (l31E sc b1 (some (crowdD ds)) x3 (some (.lst .own ((lotsI ds.length 3).map lotD))) x5 x6 x7 x8 x9) = some (.nx (l31E sc b1 (some (crowdD ds)) x3 (some (.lst .own ((lotsI ds.length 3).map lotD))) (some (.int (evenL ds).length)) x6 x7 x8 x9)) := by
    rw [asg_nm (ev_due ha cr) rfl (by simp [l31E])]
    rfl
  generalize hx4 : some (D.lst .own ((lotsI ds.length 3).map lotD)) = y4 at s2 s3
  have s4 : evS p.gs cal W (.ifs (e31O km kb) (.cons (.ret (.bl false)) .nil) .nil) (l31E sc b1 (some (crowdD ds)) x3 y4 (some (.int (evenL ds).length)) x6 x7 x8 x9) = some (.nx (l31E sc b1 (some (crowdD ds)) x3 y4 (some (.int (evenL ds).length)) x6 x7 x8 x9)) := ifs_nx (or31 hm hb cr rfl rfl)
  obtain ⟨r, b2, e5, r0, r1, hb2⟩ := hp b1 7 hb1 (by omega) (by omega)
  obtain ⟨q, b3, e6, hb3, q1, q2, q3, q4⟩ := hd b2 30 hb2 (by omega) (by omega)
  have f2 := bag_frz hb2
  have f3 := bag_frz hb3
  have s5 : evS p.gs cal W (.asg (.tp (.cons (.nm 8) (.cons (.nm 9) .nil))) (.tup (.cons (.bin .sub (.fc kp (.cons (.lend 1) (.cons (.int 7) .nil))) (.int 3)) (.cons (.fc kd (.cons (.lend 1) (.cons (.int 30) .nil))) .nil)))) (l31E sc b1 (some (crowdD ds)) x3 y4 (some (.int (evenL ds).length)) x6 x7 x8 x9) = some (.nx (l31E sc b3 (some (crowdD ds)) x3 y4 (some (.int (evenL ds).length)) x6 x7 (some (.int (r - 3))) (some (dotD q)))) := by
    simp [evS, evE, evA, evF, l31E, lendOf, lends, fillL, giveL, f1, f2, f3, e5, e6, bor, borL, isP, binS, bindT, bindTs, dotD]
  have s6 : evS p.gs cal W (.asg (.nm 6) (.lst (.cons (.fc kr (.cons (.lend 2) .nil)) (.cons e31S .nil)))) (l31E sc b3 (some (crowdD ds)) x3 y4 (some (.int (evenL ds).length)) x6 x7 (some (.int (r - 3))) (some (dotD q))) = some (.nx (l31E sc b3 (some (crowdD ds)) x3 y4 (some (.int (evenL ds).length)) (some (.lst .own ([ds.map mirI, ds.map (sheI (r - 3))].map crowdD))) x7 (some (.int (r - 3))) (some (dotD q)))) := by
    have a1 := ev_one (gl := p.gs) (cal := cal) (k := kr) (s := 2) (ρ := l31E sc b3 (some (crowdD ds)) x3 y4 (some (.int (evenL ds).length)) x6 x7 (some (.int (r - 3))) (some (dotD q))) rfl (frz_crowd ds).1 (hr ds cr) (bor_crowd _)
    have a2 := ev_she (gl := p.gs) (cal := cal) (s := r - 3) (by omega) (by omega) cr (ρ := l31E sc b3 (some (crowdD ds)) x3 y4 (some (.int (evenL ds).length)) x6 x7 (some (.int (r - 3))) (some (dotD q))) rfl rfl rfl rfl
    have l : evE p.gs cal (.lst (.cons (.fc kr (.cons (.lend 2) .nil)) (.cons e31S .nil))) (l31E sc b3 (some (crowdD ds)) x3 y4 (some (.int (evenL ds).length)) x6 x7 (some (.int (r - 3))) (some (dotD q))) = some (.lst .own ([ds.map mirI, ds.map (sheI (r - 3))].map crowdD), l31E sc b3 (some (crowdD ds)) x3 y4 (some (.int (evenL ds).length)) x6 x7 (some (.int (r - 3))) (some (dotD q))) := by
      rw [evE, ev_cons2 a1 a2 (bor_crowd _) (bor_crowd _)]
      simp [borL, bor_crowd]
    rw [asg_nm l (by simp only [bor, (bor_crowds _).1]; rfl) (by simp [l31E])]
    rfl
  obtain ⟨oss, s7, ho⟩ := ev_s31A (gl := p.gs) (W := W) hv cr (q := q) ⟨by omega, by omega, by omega, by omega⟩ (sc := sc) (bag := b3) (x3 := x3) (x4 := y4) (x5 := some (.int (evenL ds).length)) (x7 := x7) (x8 := some (.int (r - 3))) (oss := [ds.map mirI, ds.map (sheI (r - 3))]) (by simp) (fun os h => by
    simp only [List.mem_cons, List.not_mem_nil, or_false] at h
    rcases h with rfl | rfl
    · exact oth_mir cr
    · exact oth_she _ cr)
  obtain ⟨bc, fc, sc'⟩ := bor_crowds oss
  have it : evI p.gs cal (.v .fz 6) (l31E sc b3 (some (crowdD ds)) x3 y4 (some (.int (evenL ds).length)) (some (.lst .own (oss.map crowdD))) x7 (some (.int (r - 3))) (some (dotD q))) = some (oss.map crowdD, .lst .frz (oss.map crowdD), l31E sc b3 (some (crowdD ds)) x3 y4 (some (.int (evenL ds).length)) (some (.lst .frz (oss.map crowdD))) x7 (some (.int (r - 3))) (some (dotD q))) := by
    simp [evI, evE, l31E, share, sc', itOf, seqOf, fc]
  let I : List D → En → Prop := fun items ρ => ∃ y7, ρ = l31E sc b3 (some (crowdD ds)) x3 y4 (some (.int (evenL ds).length)) (some (.lst .frz (oss.map crowdD))) y7 (some (.int (r - 3))) (some (dotD q)) ∧ ∀ x ∈ items, ∃ os, x = crowdD os ∧ OthS ds os
  obtain ⟨ρ', e8, y7, rfl, _⟩ := forL_inv (wp := []) (t := .nm 7) (f := evS p.gs cal W (b31I kt km kb)) I (items := oss.map crowdD) (ρ := l31E sc b3 (some (crowdD ds)) x3 y4 (some (.int (evenL ds).length)) (some (.lst .frz (oss.map crowdD))) x7 (some (.int (r - 3))) (some (dotD q)))
    ⟨x7, rfl, fun x hx => by obtain ⟨os, h, rfl⟩ := List.mem_map.mp hx; exact ⟨os, rfl, ho os h⟩⟩ (by
      rintro x xs ρ ⟨y7, rfl, hx⟩
      obtain ⟨os, rfl, h⟩ := hx x List.mem_cons_self
      refine ⟨_, _, ?_, .inl (oth_step (gl := p.gs) (W := W) ht hm hb cr h (ρ := l31E sc b3 (some (crowdD ds)) x3 y4 (some (.int (evenL ds).length)) (some (.lst .frz (oss.map crowdD))) (some (crowdD os)) (some (.int (r - 3))) (some (dotD q))) rfl rfl rfl rfl rfl), some (crowdD os), rfl, fun y hy => hx y (List.mem_cons_of_mem _ hy)⟩
      simp [bindT, l31E, bor_crowd])
  have s8 := (ev_for (gl := p.gs) (cal := cal) (W := W) (it := .v .fz 6) (t := .nm 7) (b := b31I kt km kb) (wp := []) it (by simp only [bor, bc]; rfl)).trans e8
  refine ⟨b3, some (crowdD ds), y4, some (.int (evenL ds).length), some (.lst .frz (oss.map crowdD)), y7, some (.int (r - 3)), some (dotD q), ?_, hb3⟩
  unfold b31
  rw [ev_cons s1, ev_cons s2, ev_cons s3, ev_cons s4, ev_cons s5, ev_cons s6, ev_cons s7, ev_cons s8, evS]
end Pur

namespace Pur
open PySem
def c31a : List (Int × Int) := [(0, 0), (1, 0), (0, 1), (1, 1)]
def c31b : List (Int × Int) := [(0, 0), (2, 0), (0, -1)]
theorem t31a : (evenL c31a).length = 0 := by decide +kernel
theorem t31b : (evenL c31b).length = 1 := by decide +kernel
theorem cr31a : Crowd c31a := by
  refine ⟨by decide, fun q hq => ?_, by decide, by decide⟩
  simp only [c31a, List.mem_cons, List.not_mem_nil, or_false] at hq
  rcases hq with rfl | rfl | rfl | rfl <;> (unfold Far1; decide)
theorem cr31b : Crowd c31b := by
  refine ⟨by decide, fun q hq => ?_, by decide, by decide⟩
  simp only [c31b, List.mem_cons, List.not_mem_nil, or_false] at hq
  rcases hq with rfl | rfl | rfl <;> (unfold Far1; decide)
theorem law_fn31 {p : Pg} {cal : Cal} {W kv kr kt km kb kbg kp ka kd kl kc : Nat} (hv : MovedS cal kv) (hr : MirS cal kr) (ht : TriS cal kt) (hm : EvenS cal km) (hb : EvenS cal kb) (hbg : BagS cal kbg) (hp : PickS cal kp) (ha : AreaS cal ka) (hd : DotS cal kd) (hl : LotsS cal kl) (hc : MakeS cal kc) {ns : List Int} (hn : ns.length ≤ 63) :
    ∃ fin, runF p W cal ⟨"law", 1, n_law_k31, b_law_k31 kv kr kt km kb kbg kp ka kd kl kc⟩ [.lst .cst (ns.map .int)] = some (.bl true, fin) := by
  obtain ⟨b1, e1, hb1⟩ := hbg ns 49311 hn
  have fi := frz_ints ns
  have bi := bor_ints ns
  have f1 := bag_frz hb1
  let sc : D := .lst .cst (ns.map .int)
  have fsc : frz sc = true := by simp [sc, frz, Fl.still, fi]
  have h1 : evS p.gs cal W (.asg (.nm 1) (.fc kbg (.cons (.lend 0) (.cons (.int 49311) .nil)))) [some sc, none, none, none, none, none, none, none, none, none, none, none, none, none, none] = some (.nx (l31E sc b1 none none none none none none none none)) := by
    have e1' : cal kbg [sc, .int 49311] = some (b1, [sc, .int 49311]) := e1
    simp [evS, evE, evF, lendOf, lends, fillL, giveL, fsc, e1', bor, f1, bindT, l31E]
  have h2 : evS p.gs cal W (.asg (.nm 2) (.tup (.cons (.tup (.cons (.int 0) (.cons (.int 0) .nil))) (.cons (.tup (.cons (.int 1) (.cons (.int 0) .nil))) (.cons (.tup (.cons (.int 0) (.cons (.int 1) .nil))) (.cons (.tup (.cons (.int 1) (.cons (.int 1) .nil))) .nil)))))) (l31E sc b1 none none none none none none none none) = some (.nx (l31E sc b1 (some (crowdD c31a)) none none none none none none none)) := by
    simp [evS, evE, evA, bor, borL, bindT, l31E, crowdD, c31a, dotD]
  have ea := hm c31a cr31a
  have ea' := hb c31a cr31a
  have eb := hm c31b cr31b
  rw [t31a] at ea ea'
  rw [t31b] at eb
  have h3 : evS p.gs cal W (.ifs (.or_ (.cons (.cmp .ne (.lst (.cons (.fc km (.cons (.lend 2) .nil)) (.cons (.fc kb (.cons (.lend 2) .nil)) .nil))) (.lst (.cons (.int 0) (.cons (.int 0) .nil)))) (.cons (.cmp .ne (.fc km (.cons (.tup (.cons (.tup (.cons (.int 0) (.cons (.int 0) .nil))) (.cons (.tup (.cons (.int 2) (.cons (.int 0) .nil))) (.cons (.tup (.cons (.int 0) (.cons (.neg (.int 1)) .nil))) .nil)))) .nil)) (.int 1)) .nil))) (.cons (.ret (.bl false)) .nil) .nil) (l31E sc b1 (some (crowdD c31a)) none none none none none none none) = some (.nx (l31E sc b1 (some (crowdD c31a)) none none none none none none none)) := by
    have a1 := ev_one (gl := p.gs) (s := 2) (ρ := l31E sc b1 (some (crowdD c31a)) none none none none none none none) rfl (frz_crowd _).1 ea rfl
    have a2 := ev_one (gl := p.gs) (s := 2) (ρ := l31E sc b1 (some (crowdD c31a)) none none none none none none none) rfl (frz_crowd _).1 ea' rfl
    have l1 : evE p.gs cal (.lst (.cons (.fc km (.cons (.lend 2) .nil)) (.cons (.fc kb (.cons (.lend 2) .nil)) .nil))) (l31E sc b1 (some (crowdD c31a)) none none none none none none none) = some (.lst .own [.int 0, .int 0], l31E sc b1 (some (crowdD c31a)) none none none none none none none) := by
      rw [evE, ev_cons2 a1 a2 rfl rfl]
      simp [borL, bor]
    have q2 := eqS_same2 0
    have c1 : evE p.gs cal (.cmp .ne (.lst (.cons (.fc km (.cons (.lend 2) .nil)) (.cons (.fc kb (.cons (.lend 2) .nil)) .nil))) (.lst (.cons (.int 0) (.cons (.int 0) .nil)))) (l31E sc b1 (some (crowdD c31a)) none none none none none none none) = some (.bl false, l31E sc b1 (some (crowdD c31a)) none none none none none none none) := by
      rw [evE, l1]
      simp [evE, evA, bor, borL, isP, cmpS, q2]
    have eb' : cal km [.tup [.tup [.int 0, .int 0], .tup [.int 2, .int 0], .tup [.int 0, .int (-1)]]] = some (.int 1, [.tup [.tup [.int 0, .int 0], .tup [.int 2, .int 0], .tup [.int 0, .int (-1)]]]) := eb
    have v : ∀ ρ, evE p.gs cal (.fc km (.cons (.tup (.cons (.tup (.cons (.int 0) (.cons (.int 0) .nil))) (.cons (.tup (.cons (.int 2) (.cons (.int 0) .nil))) (.cons (.tup (.cons (.int 0) (.cons (.neg (.int 1)) .nil))) .nil)))) .nil)) ρ = some (.int 1, ρ) := by
      intro ρ
      simp [evE, evF, evA, lendOf, lends, fillL, giveL, bor, borL, isP, eb']
    have c2 : ∀ ρ, evE p.gs cal (.cmp .ne (.fc km (.cons (.tup (.cons (.tup (.cons (.int 0) (.cons (.int 0) .nil))) (.cons (.tup (.cons (.int 2) (.cons (.int 0) .nil))) (.cons (.tup (.cons (.int 0) (.cons (.neg (.int 1)) .nil))) .nil)))) .nil)) (.int 1)) ρ = some (.bl false, ρ) := by
      intro ρ
      rw [evE, v]
      simp only [evE, bor, cmp_ne_int]
      rfl
    refine ifs_nx ?_
    rw [evE]
    simp only [evOr, isNil, c1, c2]
    try rfl
  let I : List D → En → Prop := fun items ρ => ∃ bag x2 x3 x4 x5 x6 x7 x8 x9, ρ = l31E sc bag x2 x3 x4 x5 x6 x7 x8 x9 ∧ IsBag bag ∧ ∀ x ∈ items, bor x = false
  obtain ⟨ρ', e4, bag, x2, x3, x4, x5, x6, x7, x8, x9, rfl, hb4, _⟩ := forL_inv (wp := []) (t := .nm 3) (f := evS p.gs cal W (b31 kv kr kt km kb kp ka kd kl kc)) I (items := rangeD 0 10) (ρ := l31E sc b1 (some (crowdD c31a)) none none none none none none none)
    ⟨b1, some (crowdD c31a), none, none, none, none, none, none, none, rfl, hb1, fun x hx => by obtain ⟨k, _, rfl⟩ := rangeD_mem hx; rfl⟩ (by
      rintro x xs ρ ⟨bag, x2, x3, x4, x5, x6, x7, x8, x9, rfl, hb4, hx⟩
      obtain ⟨bag', y2, y4, y5, y6, y7, y8, y9, e, hb'⟩ := l31_step (p := p) (W := W) hv hr ht hm hb hp ha hd hl hc (sc := sc) (x2 := x2) (x3 := some x) (x4 := x4) (x5 := x5) (x6 := x6) (x7 := x7) (x8 := x8) (x9 := x9) hb4
      exact ⟨_, _, by simp [bindT, l31E, hx x List.mem_cons_self], .inl e, bag', y2, some x, y4, y5, y6, y7, y8, y9, rfl, hb', fun y hy => hx y (List.mem_cons_of_mem _ hy)⟩)
  have itl := ev_rngI (gl := p.gs) (cal := cal) (a := .int 10) (n := 10) (ρ := l31E sc b1 (some (crowdD c31a)) none none none none none none none) (ρ1 := l31E sc b1 (some (crowdD c31a)) none none none none none none none) (by rw [evE]; rfl) (by omega)
  have h4 := (ev_for (gl := p.gs) (cal := cal) (W := W) (it := .rng (.int 10)) (t := .nm 3) (b := b31 kv kr kt km kb kp ka kd kl kc) (wp := []) itl rfl).trans e4
  have body : evS p.gs cal W (b_law_k31 kv kr kt km kb kbg kp ka kd kl kc) [some sc, none, none, none, none, none, none, none, none, none, none, none, none, none, none] = some (.rt (.bl true) (l31E sc bag x2 x3 x4 x5 x6 x7 x8 x9)) := by
    show evS p.gs cal W (.cons _ (.cons _ (.cons _ (.cons (.for_ (.nm 3) (.rng (.int 10)) (b31 kv kr kt km kb kp ka kd kl kc) []) (.cons (.ret (.bl true)) .nil))))) _ = _
    rw [ev_cons h1, ev_cons h2, ev_cons h3, ev_cons h4, ev_cons_rt (ev_ret (d := .bl true) (by rw [evE]) rfl)]
  refine ⟨[sc], ?_⟩
  have bsc : bor sc = false := by simp [sc, bor, bi]
  show runF p W cal _ [sc] = _
  unfold runF
  simp [n_law_k31, borL, bsc, body, finL, fsc]
end Pur

namespace Pur
open PySem PySem.Spec PyProof.Rows L2
def prg : Pg where
  fs := [⟨"is_integer", 1, n_is_integer, b_is_integer⟩,
    ⟨"is_within", 3, n_is_within, (b_is_within 0)⟩,
    ⟨"is_dot", 1, n_is_dot, (b_is_dot 1 0)⟩,
    ⟨"check_dots", 1, n_check_dots, (b_check_dots 2)⟩,
    ⟨"raw_area", 3, n_raw_area, b_raw_area⟩,
    ⟨"is_crowd", 1, n_is_crowd, (b_is_crowd 2 1 2)⟩,
    ⟨"check_crowd", 1, n_check_crowd, (b_check_crowd 5)⟩,
    ⟨"lots_of", 2, n_lots_of, b_lots_of⟩,
    ⟨"near_enough", 1, n_near_enough, (b_near_enough 0)⟩,
    ⟨"moved", 2, n_moved, (b_moved 3 6 8)⟩,
    ⟨"mirrored", 1, n_mirrored, (b_mirrored 6)⟩,
    ⟨"all_sizes", 1, n_all_sizes, (b_all_sizes 4 7)⟩,
    ⟨"triangle_sizes", 1, n_triangle_sizes, (b_triangle_sizes 6 11)⟩,
    ⟨"even_many", 1, n_even_many, (b_even_many 6 11)⟩,
    ⟨"even_by_kinds", 1, n_even_by_kinds, (b_even_by_kinds 6 7)⟩,
    ⟨"_law_bag", 2, n_law_bag, b_law_bag⟩,
    ⟨"_law_pick", 2, n_law_pick, b_law_pick⟩,
    ⟨"_law_some", 2, n_law_some, (b_law_some 16)⟩,
    ⟨"_law_area", 3, n_law_area, b_law_area⟩,
    ⟨"_law_turn", 3, n_law_turn, (b_law_turn 18)⟩,
    ⟨"_law_dot", 2, n_law_dot, (b_law_dot 16)⟩,
    ⟨"_law_lots", 2, n_law_lots, b_law_lots⟩,
    ⟨"_law_bow", 2, n_law_bow, (b_law_bow 16 20)⟩,
    ⟨"_law_free", 3, n_law_free, (b_law_free 16 17 19 20 21 22)⟩,
    ⟨"_law_crowd", 3, n_law_crowd, (b_law_crowd 16 17 20 23)⟩,
    ⟨"law", 1, n_law_k31, (b_law_k31 9 10 12 13 14 15 16 18 20 21 24)⟩]
  gs := [("MOST_PLACE", .int (10000)), ("LEAST_CROWD", .int (3)), ("MOST_CROWD", .int (12))]
def plc (i : Nat) : Stmt := PySem.Challenge.pw_dotcrowds_k31_whole_even_triangles_by_tw.main.body.getD i (.Pass ⟨0, 0, 0, 0⟩)
abbrev s0 : Stmt := plc 7
theorem c0 : chkB prg ⟨n_is_integer, defScope s0, fun _ => true⟩ (Fi.body (prg.fs.getD 0 ⟨"", 0, [], .no⟩)) (defBody s0) = true := by decide +kernel
theorem q0 : FnScope n_is_integer ["thing"] (defScope s0) := ⟨by decide +kernel, by decide +kernel, by decide +kernel, by decide +kernel, by decide +kernel, by decide +kernel, by decide +kernel⟩
abbrev s1 : Stmt := plc 8
theorem c1 : chkB prg ⟨n_is_within, defScope s1, fun _ => true⟩ (Fi.body (prg.fs.getD 1 ⟨"", 0, [], .no⟩)) (defBody s1) = true := by decide +kernel
theorem q1 : FnScope n_is_within ["thing", "low", "high"] (defScope s1) := ⟨by decide +kernel, by decide +kernel, by decide +kernel, by decide +kernel, by decide +kernel, by decide +kernel, by decide +kernel⟩
abbrev s2 : Stmt := plc 9
theorem c2 : chkB prg ⟨n_is_dot, defScope s2, fun _ => true⟩ (Fi.body (prg.fs.getD 2 ⟨"", 0, [], .no⟩)) (defBody s2) = true := by decide +kernel
theorem q2 : FnScope n_is_dot ["thing"] (defScope s2) := ⟨by decide +kernel, by decide +kernel, by decide +kernel, by decide +kernel, by decide +kernel, by decide +kernel, by decide +kernel⟩
abbrev s3 : Stmt := plc 10
theorem c3 : chkB prg ⟨n_check_dots, defScope s3, fun _ => true⟩ (Fi.body (prg.fs.getD 3 ⟨"", 0, [], .no⟩)) (defBody s3) = true := by decide +kernel
theorem q3 : FnScope n_check_dots ["some"] (defScope s3) := ⟨by decide +kernel, by decide +kernel, by decide +kernel, by decide +kernel, by decide +kernel, by decide +kernel, by decide +kernel⟩
abbrev s4 : Stmt := plc 11
theorem c4 : chkB prg ⟨n_raw_area, defScope s4, fun _ => true⟩ (Fi.body (prg.fs.getD 4 ⟨"", 0, [], .no⟩)) (defBody s4) = true := by decide +kernel
theorem q4 : FnScope n_raw_area ["a", "b", "c"] (defScope s4) := ⟨by decide +kernel, by decide +kernel, by decide +kernel, by decide +kernel, by decide +kernel, by decide +kernel, by decide +kernel⟩
abbrev s5 : Stmt := plc 15
theorem c5 : chkB prg ⟨n_is_crowd, defScope s5, fun _ => true⟩ (Fi.body (prg.fs.getD 5 ⟨"", 0, [], .no⟩)) (defBody s5) = true := by decide +kernel
theorem q5 : FnScope n_is_crowd ["thing"] (defScope s5) := ⟨by decide +kernel, by decide +kernel, by decide +kernel, by decide +kernel, by decide +kernel, by decide +kernel, by decide +kernel⟩
abbrev s6 : Stmt := plc 16
theorem c6 : chkB prg ⟨n_check_crowd, defScope s6, fun _ => true⟩ (Fi.body (prg.fs.getD 6 ⟨"", 0, [], .no⟩)) (defBody s6) = true := by decide +kernel
theorem q6 : FnScope n_check_crowd ["thing"] (defScope s6) := ⟨by decide +kernel, by decide +kernel, by decide +kernel, by decide +kernel, by decide +kernel, by decide +kernel, by decide +kernel⟩
abbrev s7 : Stmt := plc 17
theorem c7 : chkB prg ⟨n_lots_of, defScope s7, fun _ => true⟩ (Fi.body (prg.fs.getD 7 ⟨"", 0, [], .no⟩)) (defBody s7) = true := by decide +kernel
theorem q7 : FnScope n_lots_of ["many", "size"] (defScope s7) := ⟨by decide +kernel, by decide +kernel, by decide +kernel, by decide +kernel, by decide +kernel, by decide +kernel, by decide +kernel⟩
abbrev s8 : Stmt := plc 18
theorem c8 : chkB prg ⟨n_near_enough, defScope s8, fun _ => true⟩ (Fi.body (prg.fs.getD 8 ⟨"", 0, [], .no⟩)) (defBody s8) = true := by decide +kernel
theorem q8 : FnScope n_near_enough ["crowd"] (defScope s8) := ⟨by decide +kernel, by decide +kernel, by decide +kernel, by decide +kernel, by decide +kernel, by decide +kernel, by decide +kernel⟩
abbrev s9 : Stmt := plc 19
theorem c9 : chkB prg ⟨n_moved, defScope s9, fun _ => true⟩ (Fi.body (prg.fs.getD 9 ⟨"", 0, [], .no⟩)) (defBody s9) = true := by decide +kernel
theorem q9 : FnScope n_moved ["crowd", "by"] (defScope s9) := ⟨by decide +kernel, by decide +kernel, by decide +kernel, by decide +kernel, by decide +kernel, by decide +kernel, by decide +kernel⟩
abbrev s10 : Stmt := plc 20
theorem c10 : chkB prg ⟨n_mirrored, defScope s10, fun _ => true⟩ (Fi.body (prg.fs.getD 10 ⟨"", 0, [], .no⟩)) (defBody s10) = true := by decide +kernel
theorem q10 : FnScope n_mirrored ["crowd"] (defScope s10) := ⟨by decide +kernel, by decide +kernel, by decide +kernel, by decide +kernel, by decide +kernel, by decide +kernel, by decide +kernel⟩
abbrev s11 : Stmt := plc 22
theorem c11 : chkB prg ⟨n_all_sizes, defScope s11, fun _ => true⟩ (Fi.body (prg.fs.getD 11 ⟨"", 0, [], .no⟩)) (defBody s11) = true := by decide +kernel
theorem q11 : FnScope n_all_sizes ["crowd"] (defScope s11) := ⟨by decide +kernel, by decide +kernel, by decide +kernel, by decide +kernel, by decide +kernel, by decide +kernel, by decide +kernel⟩
abbrev s12 : Stmt := plc 23
theorem c12 : chkB prg ⟨n_triangle_sizes, defScope s12, fun _ => true⟩ (Fi.body (prg.fs.getD 12 ⟨"", 0, [], .no⟩)) (defBody s12) = true := by decide +kernel
theorem q12 : FnScope n_triangle_sizes ["crowd"] (defScope s12) := ⟨by decide +kernel, by decide +kernel, by decide +kernel, by decide +kernel, by decide +kernel, by decide +kernel, by decide +kernel⟩
abbrev s13 : Stmt := plc 24
theorem c13 : chkB prg ⟨n_even_many, defScope s13, fun _ => true⟩ (Fi.body (prg.fs.getD 13 ⟨"", 0, [], .no⟩)) (defBody s13) = true := by decide +kernel
theorem q13 : FnScope n_even_many ["crowd"] (defScope s13) := ⟨by decide +kernel, by decide +kernel, by decide +kernel, by decide +kernel, by decide +kernel, by decide +kernel, by decide +kernel⟩
abbrev s14 : Stmt := plc 25
theorem c14 : chkB prg ⟨n_even_by_kinds, defScope s14, fun _ => true⟩ (Fi.body (prg.fs.getD 14 ⟨"", 0, [], .no⟩)) (defBody s14) = true := by decide +kernel
theorem q14 : FnScope n_even_by_kinds ["crowd"] (defScope s14) := ⟨by decide +kernel, by decide +kernel, by decide +kernel, by decide +kernel, by decide +kernel, by decide +kernel, by decide +kernel⟩
abbrev s15 : Stmt := plc 27
theorem c15 : chkB prg ⟨n_law_bag, defScope s15, fun _ => true⟩ (Fi.body (prg.fs.getD 15 ⟨"", 0, [], .no⟩)) (defBody s15) = true := by decide +kernel
theorem q15 : FnScope n_law_bag ["script", "salt"] (defScope s15) := ⟨by decide +kernel, by decide +kernel, by decide +kernel, by decide +kernel, by decide +kernel, by decide +kernel, by decide +kernel⟩
abbrev s16 : Stmt := plc 28
theorem c16 : chkB prg ⟨n_law_pick, defScope s16, fun _ => true⟩ (Fi.body (prg.fs.getD 16 ⟨"", 0, [], .no⟩)) (defBody s16) = true := by decide +kernel
theorem q16 : FnScope n_law_pick ["bag", "many"] (defScope s16) := ⟨by decide +kernel, by decide +kernel, by decide +kernel, by decide +kernel, by decide +kernel, by decide +kernel, by decide +kernel⟩
abbrev s17 : Stmt := plc 29
theorem c17 : chkB prg ⟨n_law_some, defScope s17, fun _ => true⟩ (Fi.body (prg.fs.getD 17 ⟨"", 0, [], .no⟩)) (defBody s17) = true := by decide +kernel
theorem q17 : FnScope n_law_some ["bag", "things"] (defScope s17) := ⟨by decide +kernel, by decide +kernel, by decide +kernel, by decide +kernel, by decide +kernel, by decide +kernel, by decide +kernel⟩
abbrev s18 : Stmt := plc 30
theorem c18 : chkB prg ⟨n_law_area, defScope s18, fun _ => true⟩ (Fi.body (prg.fs.getD 18 ⟨"", 0, [], .no⟩)) (defBody s18) = true := by decide +kernel
theorem q18 : FnScope n_law_area ["a", "b", "c"] (defScope s18) := ⟨by decide +kernel, by decide +kernel, by decide +kernel, by decide +kernel, by decide +kernel, by decide +kernel, by decide +kernel⟩
abbrev s19 : Stmt := plc 31
theorem c19 : chkB prg ⟨n_law_turn, defScope s19, fun _ => true⟩ (Fi.body (prg.fs.getD 19 ⟨"", 0, [], .no⟩)) (defBody s19) = true := by decide +kernel
theorem q19 : FnScope n_law_turn ["a", "b", "c"] (defScope s19) := ⟨by decide +kernel, by decide +kernel, by decide +kernel, by decide +kernel, by decide +kernel, by decide +kernel, by decide +kernel⟩
abbrev s20 : Stmt := plc 32
theorem c20 : chkB prg ⟨n_law_dot, defScope s20, fun _ => true⟩ (Fi.body (prg.fs.getD 20 ⟨"", 0, [], .no⟩)) (defBody s20) = true := by decide +kernel
theorem q20 : FnScope n_law_dot ["bag", "far"] (defScope s20) := ⟨by decide +kernel, by decide +kernel, by decide +kernel, by decide +kernel, by decide +kernel, by decide +kernel, by decide +kernel⟩
abbrev s21 : Stmt := plc 33
theorem c21 : chkB prg ⟨n_law_lots, defScope s21, fun _ => true⟩ (Fi.body (prg.fs.getD 21 ⟨"", 0, [], .no⟩)) (defBody s21) = true := by decide +kernel
theorem q21 : FnScope n_law_lots ["many", "size"] (defScope s21) := ⟨by decide +kernel, by decide +kernel, by decide +kernel, by decide +kernel, by decide +kernel, by decide +kernel, by decide +kernel⟩
abbrev s22 : Stmt := plc 34
theorem c22 : chkB prg ⟨n_law_bow, defScope s22, fun _ => true⟩ (Fi.body (prg.fs.getD 22 ⟨"", 0, [], .no⟩)) (defBody s22) = true := by decide +kernel
theorem q22 : FnScope n_law_bow ["bag", "many"] (defScope s22) := ⟨by decide +kernel, by decide +kernel, by decide +kernel, by decide +kernel, by decide +kernel, by decide +kernel, by decide +kernel⟩
abbrev s23 : Stmt := plc 35
theorem c23 : chkB prg ⟨n_law_free, defScope s23, fun _ => true⟩ (Fi.body (prg.fs.getD 23 ⟨"", 0, [], .no⟩)) (defBody s23) = true := by decide +kernel
theorem q23 : FnScope n_law_free ["bag", "least", "most"] (defScope s23) := ⟨by decide +kernel, by decide +kernel, by decide +kernel, by decide +kernel, by decide +kernel, by decide +kernel, by decide +kernel⟩
abbrev s24 : Stmt := plc 36
theorem c24 : chkB prg ⟨n_law_crowd, defScope s24, fun _ => true⟩ (Fi.body (prg.fs.getD 24 ⟨"", 0, [], .no⟩)) (defBody s24) = true := by decide +kernel
theorem q24 : FnScope n_law_crowd ["bag", "least", "most"] (defScope s24) := ⟨by decide +kernel, by decide +kernel, by decide +kernel, by decide +kernel, by decide +kernel, by decide +kernel, by decide +kernel⟩
abbrev s25 : Stmt := plc 37
theorem c25 : chkB prg ⟨n_law_k31, defScope s25, fun _ => true⟩ (Fi.body (prg.fs.getD 25 ⟨"", 0, [], .no⟩)) (defBody s25) = true := by decide +kernel
theorem q25 : FnScope n_law_k31 ["script"] (defScope s25) := ⟨by decide +kernel, by decide +kernel, by decide +kernel, by decide +kernel, by decide +kernel, by decide +kernel, by decide +kernel⟩
theorem mods {K : PySem.W.Frag} {h : Heap} {mg : Str → Option Value} (X : K.In h) (G : h.Ns mainGlobals mg)
    {a0 : Addr} {od0 an0 : Option Addr} {sl0 : Array (Option Value)} {oc0 kV0 dc0 pm0 cd0 ct0 : Value}
    {a1 : Addr} {od1 an1 : Option Addr} {sl1 : Array (Option Value)} {oc1 kV1 dc1 pm1 cd1 ct1 : Value}
    {a2 : Addr} {od2 an2 : Option Addr} {sl2 : Array (Option Value)} {oc2 kV2 dc2 pm2 cd2 ct2 : Value}
    {a3 : Addr} {od3 an3 : Option Addr} {sl3 : Array (Option Value)} {oc3 kV3 dc3 pm3 cd3 ct3 : Value}
    {a4 : Addr} {od4 an4 : Option Addr} {sl4 : Array (Option Value)} {oc4 kV4 dc4 pm4 cd4 ct4 : Value}
    {a5 : Addr} {od5 an5 : Option Addr} {sl5 : Array (Option Value)} {oc5 kV5 dc5 pm5 cd5 ct5 : Value}
    {a6 : Addr} {od6 an6 : Option Addr} {sl6 : Array (Option Value)} {oc6 kV6 dc6 pm6 cd6 ct6 : Value}
    {a7 : Addr} {od7 an7 : Option Addr} {sl7 : Array (Option Value)} {oc7 kV7 dc7 pm7 cd7 ct7 : Value}
    {a8 : Addr} {od8 an8 : Option Addr} {sl8 : Array (Option Value)} {oc8 kV8 dc8 pm8 cd8 ct8 : Value}
    {a9 : Addr} {od9 an9 : Option Addr} {sl9 : Array (Option Value)} {oc9 kV9 dc9 pm9 cd9 ct9 : Value}
    {a10 : Addr} {od10 an10 : Option Addr} {sl10 : Array (Option Value)} {oc10 kV10 dc10 pm10 cd10 ct10 : Value}
    {a11 : Addr} {od11 an11 : Option Addr} {sl11 : Array (Option Value)} {oc11 kV11 dc11 pm11 cd11 ct11 : Value}
    {a12 : Addr} {od12 an12 : Option Addr} {sl12 : Array (Option Value)} {oc12 kV12 dc12 pm12 cd12 ct12 : Value}
    {a13 : Addr} {od13 an13 : Option Addr} {sl13 : Array (Option Value)} {oc13 kV13 dc13 pm13 cd13 ct13 : Value}
    {a14 : Addr} {od14 an14 : Option Addr} {sl14 : Array (Option Value)} {oc14 kV14 dc14 pm14 cd14 ct14 : Value}
    {a15 : Addr} {od15 an15 : Option Addr} {sl15 : Array (Option Value)} {oc15 kV15 dc15 pm15 cd15 ct15 : Value}
    {a16 : Addr} {od16 an16 : Option Addr} {sl16 : Array (Option Value)} {oc16 kV16 dc16 pm16 cd16 ct16 : Value}
    {a17 : Addr} {od17 an17 : Option Addr} {sl17 : Array (Option Value)} {oc17 kV17 dc17 pm17 cd17 ct17 : Value}
    {a18 : Addr} {od18 an18 : Option Addr} {sl18 : Array (Option Value)} {oc18 kV18 dc18 pm18 cd18 ct18 : Value}
    {a19 : Addr} {od19 an19 : Option Addr} {sl19 : Array (Option Value)} {oc19 kV19 dc19 pm19 cd19 ct19 : Value}
    {a20 : Addr} {od20 an20 : Option Addr} {sl20 : Array (Option Value)} {oc20 kV20 dc20 pm20 cd20 ct20 : Value}
    {a21 : Addr} {od21 an21 : Option Addr} {sl21 : Array (Option Value)} {oc21 kV21 dc21 pm21 cd21 ct21 : Value}
    {a22 : Addr} {od22 an22 : Option Addr} {sl22 : Array (Option Value)} {oc22 kV22 dc22 pm22 cd22 ct22 : Value}
    {a23 : Addr} {od23 an23 : Option Addr} {sl23 : Array (Option Value)} {oc23 kV23 dc23 pm23 cd23 ct23 : Value}
    {a24 : Addr} {od24 an24 : Option Addr} {sl24 : Array (Option Value)} {oc24 kV24 dc24 pm24 cd24 ct24 : Value}
    {a25 : Addr} {od25 an25 : Option Addr} {sl25 : Array (Option Value)} {oc25 kV25 dc25 pm25 cd25 ct25 : Value}
    {tk0 : Tok}
    {tk1 : Tok}
    {tk2 : Tok}
    (hA0 : PySem.W.nsIn K mainGlobals "is_integer" = some (some (.ref a0)))
    (hL0 : K.lookup a0 = some ⟨oc0, od0, .func (PySem.W.fnOf "is_integer" "is_integer" (defArgs s0) (defBody s0) (defScope s0) .none kV0 dc0 pm0 an0 cd0 ct0), sl0⟩)
    (hC0 : PySem.W.codeIn K cd0 "is_integer" = true)
    (hK0 : PySem.W.keepIn K (.ref a0) = true)
    (hA1 : PySem.W.nsIn K mainGlobals "is_within" = some (some (.ref a1)))
    (hL1 : K.lookup a1 = some ⟨oc1, od1, .func (PySem.W.fnOf "is_within" "is_within" (defArgs s1) (defBody s1) (defScope s1) .none kV1 dc1 pm1 an1 cd1 ct1), sl1⟩)
    (hC1 : PySem.W.codeIn K cd1 "is_within" = true)
    (hK1 : PySem.W.keepIn K (.ref a1) = true)
    (hA2 : PySem.W.nsIn K mainGlobals "is_dot" = some (some (.ref a2)))
    (hL2 : K.lookup a2 = some ⟨oc2, od2, .func (PySem.W.fnOf "is_dot" "is_dot" (defArgs s2) (defBody s2) (defScope s2) .none kV2 dc2 pm2 an2 cd2 ct2), sl2⟩)
    (hC2 : PySem.W.codeIn K cd2 "is_dot" = true)
    (hK2 : PySem.W.keepIn K (.ref a2) = true)
    (hA3 : PySem.W.nsIn K mainGlobals "check_dots" = some (some (.ref a3)))
    (hL3 : K.lookup a3 = some ⟨oc3, od3, .func (PySem.W.fnOf "check_dots" "check_dots" (defArgs s3) (defBody s3) (defScope s3) .none kV3 dc3 pm3 an3 cd3 ct3), sl3⟩)
    (hC3 : PySem.W.codeIn K cd3 "check_dots" = true)
    (hK3 : PySem.W.keepIn K (.ref a3) = true)
    (hA4 : PySem.W.nsIn K mainGlobals "raw_area" = some (some (.ref a4)))
    (hL4 : K.lookup a4 = some ⟨oc4, od4, .func (PySem.W.fnOf "raw_area" "raw_area" (defArgs s4) (defBody s4) (defScope s4) .none kV4 dc4 pm4 an4 cd4 ct4), sl4⟩)
    (hC4 : PySem.W.codeIn K cd4 "raw_area" = true)
    (hK4 : PySem.W.keepIn K (.ref a4) = true)
    (hA5 : PySem.W.nsIn K mainGlobals "is_crowd" = some (some (.ref a5)))
    (hL5 : K.lookup a5 = some ⟨oc5, od5, .func (PySem.W.fnOf "is_crowd" "is_crowd" (defArgs s5) (defBody s5) (defScope s5) .none kV5 dc5 pm5 an5 cd5 ct5), sl5⟩)
    (hC5 : PySem.W.codeIn K cd5 "is_crowd" = true)
    (hK5 : PySem.W.keepIn K (.ref a5) = true)
    (hA6 : PySem.W.nsIn K mainGlobals "check_crowd" = some (some (.ref a6)))
    (hL6 : K.lookup a6 = some ⟨oc6, od6, .func (PySem.W.fnOf "check_crowd" "check_crowd" (defArgs s6) (defBody s6) (defScope s6) .none kV6 dc6 pm6 an6 cd6 ct6), sl6⟩)
    (hC6 : PySem.W.codeIn K cd6 "check_crowd" = true)
    (hK6 : PySem.W.keepIn K (.ref a6) = true)
    (hA7 : PySem.W.nsIn K mainGlobals "lots_of" = some (some (.ref a7)))
    (hL7 : K.lookup a7 = some ⟨oc7, od7, .func (PySem.W.fnOf "lots_of" "lots_of" (defArgs s7) (defBody s7) (defScope s7) .none kV7 dc7 pm7 an7 cd7 ct7), sl7⟩)
    (hC7 : PySem.W.codeIn K cd7 "lots_of" = true)
    (hK7 : PySem.W.keepIn K (.ref a7) = true)
    (hA8 : PySem.W.nsIn K mainGlobals "near_enough" = some (some (.ref a8)))
    (hL8 : K.lookup a8 = some ⟨oc8, od8, .func (PySem.W.fnOf "near_enough" "near_enough" (defArgs s8) (defBody s8) (defScope s8) .none kV8 dc8 pm8 an8 cd8 ct8), sl8⟩)
    (hC8 : PySem.W.codeIn K cd8 "near_enough" = true)
    (hK8 : PySem.W.keepIn K (.ref a8) = true)
    (hA9 : PySem.W.nsIn K mainGlobals "moved" = some (some (.ref a9)))
    (hL9 : K.lookup a9 = some ⟨oc9, od9, .func (PySem.W.fnOf "moved" "moved" (defArgs s9) (defBody s9) (defScope s9) .none kV9 dc9 pm9 an9 cd9 ct9), sl9⟩)
    (hC9 : PySem.W.codeIn K cd9 "moved" = true)
    (hK9 : PySem.W.keepIn K (.ref a9) = true)
    (hA10 : PySem.W.nsIn K mainGlobals "mirrored" = some (some (.ref a10)))
    (hL10 : K.lookup a10 = some ⟨oc10, od10, .func (PySem.W.fnOf "mirrored" "mirrored" (defArgs s10) (defBody s10) (defScope s10) .none kV10 dc10 pm10 an10 cd10 ct10), sl10⟩)
    (hC10 : PySem.W.codeIn K cd10 "mirrored" = true)
    (hK10 : PySem.W.keepIn K (.ref a10) = true)
    (hA11 : PySem.W.nsIn K mainGlobals "all_sizes" = some (some (.ref a11)))
    (hL11 : K.lookup a11 = some ⟨oc11, od11, .func (PySem.W.fnOf "all_sizes" "all_sizes" (defArgs s11) (defBody s11) (defScope s11) .none kV11 dc11 pm11 an11 cd11 ct11), sl11⟩)
    (hC11 : PySem.W.codeIn K cd11 "all_sizes" = true)
    (hK11 : PySem.W.keepIn K (.ref a11) = true)
    (hA12 : PySem.W.nsIn K mainGlobals "triangle_sizes" = some (some (.ref a12)))
    (hL12 : K.lookup a12 = some ⟨oc12, od12, .func (PySem.W.fnOf "triangle_sizes" "triangle_sizes" (defArgs s12) (defBody s12) (defScope s12) .none kV12 dc12 pm12 an12 cd12 ct12), sl12⟩)
    (hC12 : PySem.W.codeIn K cd12 "triangle_sizes" = true)
    (hK12 : PySem.W.keepIn K (.ref a12) = true)
    (hA13 : PySem.W.nsIn K mainGlobals "even_many" = some (some (.ref a13)))
    (hL13 : K.lookup a13 = some ⟨oc13, od13, .func (PySem.W.fnOf "even_many" "even_many" (defArgs s13) (defBody s13) (defScope s13) .none kV13 dc13 pm13 an13 cd13 ct13), sl13⟩)
    (hC13 : PySem.W.codeIn K cd13 "even_many" = true)
    (hK13 : PySem.W.keepIn K (.ref a13) = true)
    (hA14 : PySem.W.nsIn K mainGlobals "even_by_kinds" = some (some (.ref a14)))
    (hL14 : K.lookup a14 = some ⟨oc14, od14, .func (PySem.W.fnOf "even_by_kinds" "even_by_kinds" (defArgs s14) (defBody s14) (defScope s14) .none kV14 dc14 pm14 an14 cd14 ct14), sl14⟩)
    (hC14 : PySem.W.codeIn K cd14 "even_by_kinds" = true)
    (hK14 : PySem.W.keepIn K (.ref a14) = true)
    (hA15 : PySem.W.nsIn K mainGlobals "_law_bag" = some (some (.ref a15)))
    (hL15 : K.lookup a15 = some ⟨oc15, od15, .func (PySem.W.fnOf "_law_bag" "_law_bag" (defArgs s15) (defBody s15) (defScope s15) .none kV15 dc15 pm15 an15 cd15 ct15), sl15⟩)
    (hC15 : PySem.W.codeIn K cd15 "_law_bag" = true)
    (hK15 : PySem.W.keepIn K (.ref a15) = true)
    (hA16 : PySem.W.nsIn K mainGlobals "_law_pick" = some (some (.ref a16)))
    (hL16 : K.lookup a16 = some ⟨oc16, od16, .func (PySem.W.fnOf "_law_pick" "_law_pick" (defArgs s16) (defBody s16) (defScope s16) .none kV16 dc16 pm16 an16 cd16 ct16), sl16⟩)
    (hC16 : PySem.W.codeIn K cd16 "_law_pick" = true)
    (hK16 : PySem.W.keepIn K (.ref a16) = true)
    (hA17 : PySem.W.nsIn K mainGlobals "_law_some" = some (some (.ref a17)))
    (hL17 : K.lookup a17 = some ⟨oc17, od17, .func (PySem.W.fnOf "_law_some" "_law_some" (defArgs s17) (defBody s17) (defScope s17) .none kV17 dc17 pm17 an17 cd17 ct17), sl17⟩)
    (hC17 : PySem.W.codeIn K cd17 "_law_some" = true)
    (hK17 : PySem.W.keepIn K (.ref a17) = true)
    (hA18 : PySem.W.nsIn K mainGlobals "_law_area" = some (some (.ref a18)))
    (hL18 : K.lookup a18 = some ⟨oc18, od18, .func (PySem.W.fnOf "_law_area" "_law_area" (defArgs s18) (defBody s18) (defScope s18) .none kV18 dc18 pm18 an18 cd18 ct18), sl18⟩)
    (hC18 : PySem.W.codeIn K cd18 "_law_area" = true)
    (hK18 : PySem.W.keepIn K (.ref a18) = true)
    (hA19 : PySem.W.nsIn K mainGlobals "_law_turn" = some (some (.ref a19)))
    (hL19 : K.lookup a19 = some ⟨oc19, od19, .func (PySem.W.fnOf "_law_turn" "_law_turn" (defArgs s19) (defBody s19) (defScope s19) .none kV19 dc19 pm19 an19 cd19 ct19), sl19⟩)
    (hC19 : PySem.W.codeIn K cd19 "_law_turn" = true)
    (hK19 : PySem.W.keepIn K (.ref a19) = true)
    (hA20 : PySem.W.nsIn K mainGlobals "_law_dot" = some (some (.ref a20)))
    (hL20 : K.lookup a20 = some ⟨oc20, od20, .func (PySem.W.fnOf "_law_dot" "_law_dot" (defArgs s20) (defBody s20) (defScope s20) .none kV20 dc20 pm20 an20 cd20 ct20), sl20⟩)
    (hC20 : PySem.W.codeIn K cd20 "_law_dot" = true)
    (hK20 : PySem.W.keepIn K (.ref a20) = true)
    (hA21 : PySem.W.nsIn K mainGlobals "_law_lots" = some (some (.ref a21)))
    (hL21 : K.lookup a21 = some ⟨oc21, od21, .func (PySem.W.fnOf "_law_lots" "_law_lots" (defArgs s21) (defBody s21) (defScope s21) .none kV21 dc21 pm21 an21 cd21 ct21), sl21⟩)
    (hC21 : PySem.W.codeIn K cd21 "_law_lots" = true)
    (hK21 : PySem.W.keepIn K (.ref a21) = true)
    (hA22 : PySem.W.nsIn K mainGlobals "_law_bow" = some (some (.ref a22)))
    (hL22 : K.lookup a22 = some ⟨oc22, od22, .func (PySem.W.fnOf "_law_bow" "_law_bow" (defArgs s22) (defBody s22) (defScope s22) .none kV22 dc22 pm22 an22 cd22 ct22), sl22⟩)
    (hC22 : PySem.W.codeIn K cd22 "_law_bow" = true)
    (hK22 : PySem.W.keepIn K (.ref a22) = true)
    (hA23 : PySem.W.nsIn K mainGlobals "_law_free" = some (some (.ref a23)))
    (hL23 : K.lookup a23 = some ⟨oc23, od23, .func (PySem.W.fnOf "_law_free" "_law_free" (defArgs s23) (defBody s23) (defScope s23) .none kV23 dc23 pm23 an23 cd23 ct23), sl23⟩)
    (hC23 : PySem.W.codeIn K cd23 "_law_free" = true)
    (hK23 : PySem.W.keepIn K (.ref a23) = true)
    (hA24 : PySem.W.nsIn K mainGlobals "_law_crowd" = some (some (.ref a24)))
    (hL24 : K.lookup a24 = some ⟨oc24, od24, .func (PySem.W.fnOf "_law_crowd" "_law_crowd" (defArgs s24) (defBody s24) (defScope s24) .none kV24 dc24 pm24 an24 cd24 ct24), sl24⟩)
    (hC24 : PySem.W.codeIn K cd24 "_law_crowd" = true)
    (hK24 : PySem.W.keepIn K (.ref a24) = true)
    (hA25 : PySem.W.nsIn K mainGlobals "law" = some (some (.ref a25)))
    (hL25 : K.lookup a25 = some ⟨oc25, od25, .func (PySem.W.fnOf "law" "law" (defArgs s25) (defBody s25) (defScope s25) .none kV25 dc25 pm25 an25 cd25 ct25), sl25⟩)
    (hC25 : PySem.W.codeIn K cd25 "law" = true)
    (hK25 : PySem.W.keepIn K (.ref a25) = true)
    (hG0 : PySem.W.nsIn K mainGlobals "MOST_PLACE" = some (some (.int (10000) tk0)))
    (hG1 : PySem.W.nsIn K mainGlobals "LEAST_CROWD" = some (some (.int (3) tk1)))
    (hG2 : PySem.W.nsIn K mainGlobals "MOST_CROWD" = some (some (.int (12) tk2)))
    (hZ0 : PySem.W.nsIn K mainGlobals "len" = some none)
    (hZ1 : PySem.W.nsIn K mainGlobals "abs" = some none)
    (hZ2 : PySem.W.nsIn K mainGlobals "int" = some none)
    (hZ3 : PySem.W.nsIn K mainGlobals "all" = some none)
    (hZ4 : PySem.W.nsIn K mainGlobals "any" = some none)
    (hZ5 : PySem.W.nsIn K mainGlobals "sum" = some none)
    (hZ6 : PySem.W.nsIn K mainGlobals "max" = some none)
    (hZ7 : PySem.W.nsIn K mainGlobals "min" = some none)
    (hZ8 : PySem.W.nsIn K mainGlobals "sorted" = some none)
    (hZ9 : PySem.W.nsIn K mainGlobals "list" = some none)
    (hZ10 : PySem.W.nsIn K mainGlobals "tuple" = some none)
    (hZ11 : PySem.W.nsIn K mainGlobals "repr" = some none)
    (hZ12 : PySem.W.nsIn K mainGlobals "isinstance" = some none)
    (hZ13 : PySem.W.nsIn K mainGlobals "bool" = some none)
    (hZ14 : PySem.W.nsIn K mainGlobals "str" = some none)
    (hZ15 : PySem.W.nsIn K mainGlobals "range" = some none)
    (hZ16 : PySem.W.nsIn K mainGlobals "enumerate" = some none)
    (hZ17 : PySem.W.nsIn K mainGlobals "zip" = some none) : ModAt prg K mg where
  nb := fun x hx => by
    simp only [bNames, List.mem_cons, List.not_mem_nil, or_false] at hx
    rcases hx with rfl | rfl | rfl | rfl | rfl | rfl | rfl | rfl | rfl | rfl | rfl | rfl | rfl | rfl | rfl | rfl | rfl | rfl
    · exact PySem.W.mg_none_of X G hZ0
    · exact PySem.W.mg_none_of X G hZ1
    · exact PySem.W.mg_none_of X G hZ2
    · exact PySem.W.mg_none_of X G hZ3
    · exact PySem.W.mg_none_of X G hZ4
    · exact PySem.W.mg_none_of X G hZ5
    · exact PySem.W.mg_none_of X G hZ6
    · exact PySem.W.mg_none_of X G hZ7
    · exact PySem.W.mg_none_of X G hZ8
    · exact PySem.W.mg_none_of X G hZ9
    · exact PySem.W.mg_none_of X G hZ10
    · exact PySem.W.mg_none_of X G hZ11
    · exact PySem.W.mg_none_of X G hZ12
    · exact PySem.W.mg_none_of X G hZ13
    · exact PySem.W.mg_none_of X G hZ14
    · exact PySem.W.mg_none_of X G hZ15
    · exact PySem.W.mg_none_of X G hZ16
    · exact PySem.W.mg_none_of X G hZ17
  gs := fun k x d hk => by
    cases k with
    | zero => cases hk; exact ⟨rfl, _, V.int (10000), PySem.W.mg_of X G hG0, ⟨tk0, rfl⟩, fun _ _ => by simp [Rep]⟩
    | succ k =>
      cases k with
      | zero => cases hk; exact ⟨rfl, _, V.int (3), PySem.W.mg_of X G hG1, ⟨tk1, rfl⟩, fun _ _ => by simp [Rep]⟩
      | succ k =>
        cases k with
        | zero => cases hk; exact ⟨rfl, _, V.int (12), PySem.W.mg_of X G hG2, ⟨tk2, rfl⟩, fun _ _ => by simp [Rep]⟩
        | succ k =>
          simp [prg] at hk
  fs := fun f hf => by
    simp only [prg, List.mem_cons, List.not_mem_nil, or_false] at hf
    rcases hf with rfl | rfl | rfl | rfl | rfl | rfl | rfl | rfl | rfl | rfl | rfl | rfl | rfl | rfl | rfl | rfl | rfl | rfl | rfl | rfl | rfl | rfl | rfl | rfl | rfl | rfl
    · exact ⟨a0, _, s0, "is_integer", _, PySem.W.mg_of X G hA0, fun_mk (st := s0) hL0 hC0 hK0, q0, rfl, (fun_mk (st := s0) hL0 hC0 hK0).binds (fun _ _ _ _ _ _ us hl => match us, hl with | [_], _ => rfl), c0⟩
    · exact ⟨a1, _, s1, "is_within", _, PySem.W.mg_of X G hA1, fun_mk (st := s1) hL1 hC1 hK1, q1, rfl, (fun_mk (st := s1) hL1 hC1 hK1).binds (fun _ _ _ _ _ _ us hl => match us, hl with | [_, _, _], _ => rfl), c1⟩
    · exact ⟨a2, _, s2, "is_dot", _, PySem.W.mg_of X G hA2, fun_mk (st := s2) hL2 hC2 hK2, q2, rfl, (fun_mk (st := s2) hL2 hC2 hK2).binds (fun _ _ _ _ _ _ us hl => match us, hl with | [_], _ => rfl), c2⟩
    · exact ⟨a3, _, s3, "check_dots", _, PySem.W.mg_of X G hA3, fun_mk (st := s3) hL3 hC3 hK3, q3, rfl, (fun_mk (st := s3) hL3 hC3 hK3).binds (fun _ _ _ _ _ _ us hl => match us, hl with | [_], _ => rfl), c3⟩
    · exact ⟨a4, _, s4, "raw_area", _, PySem.W.mg_of X G hA4, fun_mk (st := s4) hL4 hC4 hK4, q4, rfl, (fun_mk (st := s4) hL4 hC4 hK4).binds (fun _ _ _ _ _ _ us hl => match us, hl with | [_, _, _], _ => rfl), c4⟩
    · exact ⟨a5, _, s5, "is_crowd", _, PySem.W.mg_of X G hA5, fun_mk (st := s5) hL5 hC5 hK5, q5, rfl, (fun_mk (st := s5) hL5 hC5 hK5).binds (fun _ _ _ _ _ _ us hl => match us, hl with | [_], _ => rfl), c5⟩
    · exact ⟨a6, _, s6, "check_crowd", _, PySem.W.mg_of X G hA6, fun_mk (st := s6) hL6 hC6 hK6, q6, rfl, (fun_mk (st := s6) hL6 hC6 hK6).binds (fun _ _ _ _ _ _ us hl => match us, hl with | [_], _ => rfl), c6⟩
    · exact ⟨a7, _, s7, "lots_of", _, PySem.W.mg_of X G hA7, fun_mk (st := s7) hL7 hC7 hK7, q7, rfl, (fun_mk (st := s7) hL7 hC7 hK7).binds (fun _ _ _ _ _ _ us hl => match us, hl with | [_, _], _ => rfl), c7⟩
    · exact ⟨a8, _, s8, "near_enough", _, PySem.W.mg_of X G hA8, fun_mk (st := s8) hL8 hC8 hK8, q8, rfl, (fun_mk (st := s8) hL8 hC8 hK8).binds (fun _ _ _ _ _ _ us hl => match us, hl with | [_], _ => rfl), c8⟩
    · exact ⟨a9, _, s9, "moved", _, PySem.W.mg_of X G hA9, fun_mk (st := s9) hL9 hC9 hK9, q9, rfl, (fun_mk (st := s9) hL9 hC9 hK9).binds (fun _ _ _ _ _ _ us hl => match us, hl with | [_, _], _ => rfl), c9⟩
    · exact ⟨a10, _, s10, "mirrored", _, PySem.W.mg_of X G hA10, fun_mk (st := s10) hL10 hC10 hK10, q10, rfl, (fun_mk (st := s10) hL10 hC10 hK10).binds (fun _ _ _ _ _ _ us hl => match us, hl with | [_], _ => rfl), c10⟩
    · exact ⟨a11, _, s11, "all_sizes", _, PySem.W.mg_of X G hA11, fun_mk (st := s11) hL11 hC11 hK11, q11, rfl, (fun_mk (st := s11) hL11 hC11 hK11).binds (fun _ _ _ _ _ _ us hl => match us, hl with | [_], _ => rfl), c11⟩
    · exact ⟨a12, _, s12, "triangle_sizes", _, PySem.W.mg_of X G hA12, fun_mk (st := s12) hL12 hC12 hK12, q12, rfl, (fun_mk (st := s12) hL12 hC12 hK12).binds (fun _ _ _ _ _ _ us hl => match us, hl with | [_], _ => rfl), c12⟩
    · exact ⟨a13, _, s13, "even_many", _, PySem.W.mg_of X G hA13, fun_mk (st := s13) hL13 hC13 hK13, q13, rfl, (fun_mk (st := s13) hL13 hC13 hK13).binds (fun _ _ _ _ _ _ us hl => match us, hl with | [_], _ => rfl), c13⟩
    · exact ⟨a14, _, s14, "even_by_kinds", _, PySem.W.mg_of X G hA14, fun_mk (st := s14) hL14 hC14 hK14, q14, rfl, (fun_mk (st := s14) hL14 hC14 hK14).binds (fun _ _ _ _ _ _ us hl => match us, hl with | [_], _ => rfl), c14⟩
    · exact ⟨a15, _, s15, "_law_bag", _, PySem.W.mg_of X G hA15, fun_mk (st := s15) hL15 hC15 hK15, q15, rfl, (fun_mk (st := s15) hL15 hC15 hK15).binds (fun _ _ _ _ _ _ us hl => match us, hl with | [_, _], _ => rfl), c15⟩
    · exact ⟨a16, _, s16, "_law_pick", _, PySem.W.mg_of X G hA16, fun_mk (st := s16) hL16 hC16 hK16, q16, rfl, (fun_mk (st := s16) hL16 hC16 hK16).binds (fun _ _ _ _ _ _ us hl => match us, hl with | [_, _], _ => rfl), c16⟩
    · exact ⟨a17, _, s17, "_law_some", _, PySem.W.mg_of X G hA17, fun_mk (st := s17) hL17 hC17 hK17, q17, rfl, (fun_mk (st := s17) hL17 hC17 hK17).binds (fun _ _ _ _ _ _ us hl => match us, hl with | [_, _], _ => rfl), c17⟩
    · exact ⟨a18, _, s18, "_law_area", _, PySem.W.mg_of X G hA18, fun_mk (st := s18) hL18 hC18 hK18, q18, rfl, (fun_mk (st := s18) hL18 hC18 hK18).binds (fun _ _ _ _ _ _ us hl => match us, hl with | [_, _, _], _ => rfl), c18⟩
    · exact ⟨a19, _, s19, "_law_turn", _, PySem.W.mg_of X G hA19, fun_mk (st := s19) hL19 hC19 hK19, q19, rfl, (fun_mk (st := s19) hL19 hC19 hK19).binds (fun _ _ _ _ _ _ us hl => match us, hl with | [_, _, _], _ => rfl), c19⟩
    · exact ⟨a20, _, s20, "_law_dot", _, PySem.W.mg_of X G hA20, fun_mk (st := s20) hL20 hC20 hK20, q20, rfl, (fun_mk (st := s20) hL20 hC20 hK20).binds (fun _ _ _ _ _ _ us hl => match us, hl with | [_, _], _ => rfl), c20⟩
    · exact ⟨a21, _, s21, "_law_lots", _, PySem.W.mg_of X G hA21, fun_mk (st := s21) hL21 hC21 hK21, q21, rfl, (fun_mk (st := s21) hL21 hC21 hK21).binds (fun _ _ _ _ _ _ us hl => match us, hl with | [_, _], _ => rfl), c21⟩
    · exact ⟨a22, _, s22, "_law_bow", _, PySem.W.mg_of X G hA22, fun_mk (st := s22) hL22 hC22 hK22, q22, rfl, (fun_mk (st := s22) hL22 hC22 hK22).binds (fun _ _ _ _ _ _ us hl => match us, hl with | [_, _], _ => rfl), c22⟩
    · exact ⟨a23, _, s23, "_law_free", _, PySem.W.mg_of X G hA23, fun_mk (st := s23) hL23 hC23 hK23, q23, rfl, (fun_mk (st := s23) hL23 hC23 hK23).binds (fun _ _ _ _ _ _ us hl => match us, hl with | [_, _, _], _ => rfl), c23⟩
    · exact ⟨a24, _, s24, "_law_crowd", _, PySem.W.mg_of X G hA24, fun_mk (st := s24) hL24 hC24 hK24, q24, rfl, (fun_mk (st := s24) hL24 hC24 hK24).binds (fun _ _ _ _ _ _ us hl => match us, hl with | [_, _, _], _ => rfl), c24⟩
    · exact ⟨a25, _, s25, "law", _, PySem.W.mg_of X G hA25, fun_mk (st := s25) hL25 hC25 hK25, q25, rfl, (fun_mk (st := s25) hL25 hC25 hK25).binds (fun _ _ _ _ _ _ us hl => match us, hl with | [_], _ => rfl), c25⟩

/-! the join: each def by its callees -/
theorem jPick (n : Nat) : PickS (calN prg 100000 (n + 1)) 16 := by
  rintro b m ⟨big, c, s, rfl⟩ h0 h1
  exact pick_ok prg (calN prg 100000 n) 100000 c s m big h0 h1
theorem jSome (n : Nat) : SomeS (calN prg 100000 (n + 2)) 17 := fun b xs hb hx hn hl => some_ok (p := prg) (cal := calN prg 100000 (n + 1)) (W := 100000) (jPick n) hb hx hn hl
theorem jDot (n : Nat) : DotS (calN prg 100000 (n + 2)) 20 := fun b m hb h0 h1 => dot_ok (p := prg) (cal := calN prg 100000 (n + 1)) (W := 100000) (jPick n) hb h0 h1
theorem jArea (n : Nat) : AreaS (calN prg 100000 (n + 1)) 18 := fun a b c ha hb => area_run (p := prg) (cal := calN prg 100000 n) (W := 100000) ha hb
theorem jRaw (n : Nat) : AreaS (calN prg 100000 (n + 1)) 4 := fun a b c ha hb => rarea_run (p := prg) (cal := calN prg 100000 n) (W := 100000) ha hb
theorem jTurn (n : Nat) : TurnS (calN prg 100000 (n + 2)) 19 := fun a b c ha hb => turn_run (p := prg) (cal := calN prg 100000 (n + 1)) (W := 100000) (jArea n) ha hb
theorem pow_few {many : Int} (h1 : many ≤ 60) {size : Nat} (h : size ≤ 3) : ∀ n ≤ size, many.toNat ^ n ≤ 10000000 := by
  intro n hn
  refine Nat.le_trans (Nat.pow_le_pow_left (show many.toNat ≤ 60 by omega) n) ?_
  have : n = 0 ∨ n = 1 ∨ n = 2 ∨ n = 3 := by omega
  rcases this with rfl | rfl | rfl | rfl <;> decide
theorem jLots (n : Nat) : LotsS (calN prg 100000 (n + 1)) 21 := fun many size h0 h1 h2 => lots_ok prg (calN prg 100000 n) 100000 h0 (by omega) (by omega) (pow_few h1 h2)
theorem jLotsOf (n : Nat) : LotsS (calN prg 100000 (n + 1)) 7 := fun many size h0 h1 h2 => lotsof_ok prg (calN prg 100000 n) 100000 h0 (by omega) (by omega) (pow_few h1 h2)
theorem jBow (n : Nat) : BowS (calN prg 100000 (n + 3)) 22 := fun b many hb hm => bow_ok (p := prg) (cal := calN prg 100000 (n + 2)) (W := 100000) (jPick (n + 1)) (jDot n) hb hm
theorem jFree (n : Nat) : FreeS (calN prg 100000 (n + 4)) 23 := fun b lo hi hb h1 h2 h3 => free_run (p := prg) (cal := calN prg 100000 (n + 3)) (W := 100000) (jPick (n + 2)) (jSome (n + 1)) (jTurn (n + 1)) (jDot (n + 1)) (jLots (n + 2)) (jBow n) hb h1 h2 h3
theorem jMake (n : Nat) : MakeS (calN prg 100000 (n + 5)) 24 := fun b lo hi hb h1 h2 h3 => make_run (p := prg) (cal := calN prg 100000 (n + 4)) (W := 100000) (jPick (n + 3)) (jSome (n + 2)) (jDot (n + 2)) (jFree n) hb h1 h2 h3
theorem jInteger (n : Nat) : IntegerS (calN prg 100000 (n + 1)) 0 := fun i => integer_run (p := prg) (cal := calN prg 100000 n) (W := 100000) i
theorem jWithin (n : Nat) : WithinS (calN prg 100000 (n + 2)) 1 := fun i lo hi => within_run (p := prg) (cal := calN prg 100000 (n + 1)) (W := 100000) (jInteger n) i lo hi
theorem jDotOk (n : Nat) : DotOkS (calN prg 100000 (n + 3)) 2 := fun q hq => dot_run (p := prg) (cal := calN prg 100000 (n + 2)) (W := 100000) (x := "MOST_PLACE") (jWithin n) rfl hq
theorem jDots (n : Nat) : DotsS (calN prg 100000 (n + 4)) 3 := fun ds hd => dots_run (p := prg) (cal := calN prg 100000 (n + 3)) (W := 100000) (jDotOk n) hd
theorem jCrowd (n : Nat) : CrowdS (calN prg 100000 (n + 4)) 5 := fun ds cr => crowd_run (p := prg) (cal := calN prg 100000 (n + 3)) (W := 100000) (x := "LEAST_CROWD") (y := "MOST_CROWD") (jDotOk n) rfl rfl cr.far cr.nd cr.lo cr.hi
theorem jCheck (n : Nat) : CheckS (calN prg 100000 (n + 5)) 6 := fun ds cr => check_run (p := prg) (cal := calN prg 100000 (n + 4)) (W := 100000) (jCrowd n) cr
theorem jNear (n : Nat) : NearS (calN prg 100000 (n + 1)) 8 := fun ds hd hn => near_run (p := prg) (cal := calN prg 100000 n) (W := 100000) (x := "MOST_PLACE") rfl hd hn
theorem jMoved (n : Nat) : MovedS (calN prg 100000 (n + 6)) 9 := fun ds q cr hq hm => moved_run (p := prg) (cal := calN prg 100000 (n + 5)) (W := 100000) (jDots (n + 1)) (jCheck n) (jNear (n + 4)) cr hq hm
theorem jMir (n : Nat) : MirS (calN prg 100000 (n + 6)) 10 := fun ds cr => mir_run (p := prg) (cal := calN prg 100000 (n + 5)) (W := 100000) (jCheck n) cr
theorem jAll (n : Nat) : AllS (calN prg 100000 (n + 2)) 11 := fun ds cr => all_run (p := prg) (cal := calN prg 100000 (n + 1)) (W := 100000) (jRaw n) (jLotsOf n) cr
theorem jTri (n : Nat) : TriS (calN prg 100000 (n + 6)) 12 := fun ds cr => tri_run (p := prg) (cal := calN prg 100000 (n + 5)) (W := 100000) (jCheck n) (jAll (n + 3)) cr
theorem jEven (n : Nat) : EvenS (calN prg 100000 (n + 6)) 13 := fun ds cr => even_run (p := prg) (cal := calN prg 100000 (n + 5)) (W := 100000) (jCheck n) (jAll (n + 3)) cr
theorem jByk (n : Nat) : EvenS (calN prg 100000 (n + 6)) 14 := fun ds cr => byk_run (p := prg) (cal := calN prg 100000 (n + 5)) (W := 100000) (jCheck n) (jLotsOf (n + 4)) cr
theorem jBag (n : Nat) : BagS (calN prg 100000 (n + 1)) 15 := fun ns salt hn => bag_run (p := prg) (cal := calN prg 100000 n) (W := 100000) hn
theorem law_plain (ns : List Int) (h : ns.length ≤ 63) : ∃ fin, calN prg 100000 40 25 [.lst .cst (ns.map .int)] = some (.bl true, fin) :=
  law_fn31 (p := prg) (cal := calN prg 100000 39) (W := 100000) (jMoved 33) (jMir 33) (jTri 33) (jEven 33) (jByk 33) (jBag 38) (jPick 38) (jArea 38) (jDot 37) (jLots 38) (jMake 34) h
end Pur
open Pur in
open PySem PySem.W PyProof.Rows in
set_option maxRecDepth 100000 in
set_option maxHeartbeats 0 in
theorem PySem.Challenge.cw_dotcrowds_k31_whole_even_triangles_by_tw_holds : PySem.Challenge.rw_dotcrowds_k31_whole_even_triangles_by_tw.Holds := by
  w_on; o_law; k_head; (case hw => w_witness2)
  k_fill
  refine holds_of (l := PySem.Challenge.rw_dotcrowds_k31_whole_even_triangles_by_tw) (p := prg) (law := 25) (lv := 40) (W := 100000) rfl (by decide) rfl ⟨rfl, by decide, by decide⟩ rfl rfl rfl (fun w h Y => PySem.W.kIn_of Y) ?F law_plain
  case F =>
    intro w mg h KX G
    refine' mods KX G ?hA0 ?hL0 ?hC0 ?hK0 ?hA1 ?hL1 ?hC1 ?hK1 ?hA2 ?hL2 ?hC2 ?hK2 ?hA3 ?hL3 ?hC3 ?hK3 ?hA4 ?hL4 ?hC4 ?hK4 ?hA5 ?hL5 ?hC5 ?hK5 ?hA6 ?hL6 ?hC6 ?hK6 ?hA7 ?hL7 ?hC7 ?hK7 ?hA8 ?hL8 ?hC8 ?hK8 ?hA9 ?hL9 ?hC9 ?hK9 ?hA10 ?hL10 ?hC10 ?hK10 ?hA11 ?hL11 ?hC11 ?hK11 ?hA12 ?hL12 ?hC12 ?hK12 ?hA13 ?hL13 ?hC13 ?hK13 ?hA14 ?hL14 ?hC14 ?hK14 ?hA15 ?hL15 ?hC15 ?hK15 ?hA16 ?hL16 ?hC16 ?hK16 ?hA17 ?hL17 ?hC17 ?hK17 ?hA18 ?hL18 ?hC18 ?hK18 ?hA19 ?hL19 ?hC19 ?hK19 ?hA20 ?hL20 ?hC20 ?hK20 ?hA21 ?hL21 ?hC21 ?hK21 ?hA22 ?hL22 ?hC22 ?hK22 ?hA23 ?hL23 ?hC23 ?hK23 ?hA24 ?hL24 ?hC24 ?hK24 ?hA25 ?hL25 ?hC25 ?hK25 ?hG0 ?hG1 ?hG2 ?hZ0 ?hZ1 ?hZ2 ?hZ3 ?hZ4 ?hZ5 ?hZ6 ?hZ7 ?hZ8 ?hZ9 ?hZ10 ?hZ11 ?hZ12 ?hZ13 ?hZ14 ?hZ15 ?hZ16 ?hZ17
    (case hA0 => k_is)
    (case hL0 => k_is)
    (case hC0 => k_is)
    (case hK0 => k_is)
    (case hA1 => k_is)
    (case hL1 => k_is)
    (case hC1 => k_is)
    (case hK1 => k_is)
    (case hA2 => k_is)
    (case hL2 => k_is)
    (case hC2 => k_is)
    (case hK2 => k_is)
    (case hA3 => k_is)
    (case hL3 => k_is)
    (case hC3 => k_is)
    (case hK3 => k_is)
    (case hA4 => k_is)
    (case hL4 => k_is)
    (case hC4 => k_is)
    (case hK4 => k_is)
    (case hA5 => k_is)
    (case hL5 => k_is)
    (case hC5 => k_is)
    (case hK5 => k_is)
    (case hA6 => k_is)
    (case hL6 => k_is)
    (case hC6 => k_is)
    (case hK6 => k_is)
    (case hA7 => k_is)
    (case hL7 => k_is)
    (case hC7 => k_is)
    (case hK7 => k_is)
    (case hA8 => k_is)
    (case hL8 => k_is)
    (case hC8 => k_is)
    (case hK8 => k_is)
    (case hA9 => k_is)
    (case hL9 => k_is)
    (case hC9 => k_is)
    (case hK9 => k_is)
    (case hA10 => k_is)
    (case hL10 => k_is)
    (case hC10 => k_is)
    (case hK10 => k_is)
    (case hA11 => k_is)
    (case hL11 => k_is)
    (case hC11 => k_is)
    (case hK11 => k_is)
    (case hA12 => k_is)
    (case hL12 => k_is)
    (case hC12 => k_is)
    (case hK12 => k_is)
    (case hA13 => k_is)
    (case hL13 => k_is)
    (case hC13 => k_is)
    (case hK13 => k_is)
    (case hA14 => k_is)
    (case hL14 => k_is)
    (case hC14 => k_is)
    (case hK14 => k_is)
    (case hA15 => k_is)
    (case hL15 => k_is)
    (case hC15 => k_is)
    (case hK15 => k_is)
    (case hA16 => k_is)
    (case hL16 => k_is)
    (case hC16 => k_is)
    (case hK16 => k_is)
    (case hA17 => k_is)
    (case hL17 => k_is)
    (case hC17 => k_is)
    (case hK17 => k_is)
    (case hA18 => k_is)
    (case hL18 => k_is)
    (case hC18 => k_is)
    (case hK18 => k_is)
    (case hA19 => k_is)
    (case hL19 => k_is)
    (case hC19 => k_is)
    (case hK19 => k_is)
    (case hA20 => k_is)
    (case hL20 => k_is)
    (case hC20 => k_is)
    (case hK20 => k_is)
    (case hA21 => k_is)
    (case hL21 => k_is)
    (case hC21 => k_is)
    (case hK21 => k_is)
    (case hA22 => k_is)
    (case hL22 => k_is)
    (case hC22 => k_is)
    (case hK22 => k_is)
    (case hA23 => k_is)
    (case hL23 => k_is)
    (case hC23 => k_is)
    (case hK23 => k_is)
    (case hA24 => k_is)
    (case hL24 => k_is)
    (case hC24 => k_is)
    (case hK24 => k_is)
    (case hA25 => k_is)
    (case hL25 => k_is)
    (case hC25 => k_is)
    (case hK25 => k_is)
    (case hG0 => k_is)
    (case hG1 => k_is)
    (case hG2 => k_is)
    (case hZ0 => k_is)
    (case hZ1 => k_is)
    (case hZ2 => k_is)
    (case hZ3 => k_is)
    (case hZ4 => k_is)
    (case hZ5 => k_is)
    (case hZ6 => k_is)
    (case hZ7 => k_is)
    (case hZ8 => k_is)
    (case hZ9 => k_is)
    (case hZ10 => k_is)
    (case hZ11 => k_is)
    (case hZ12 => k_is)
    (case hZ13 => k_is)
    (case hZ14 => k_is)
    (case hZ15 => k_is)
    (case hZ16 => k_is)
    (case hZ17 => k_is)

