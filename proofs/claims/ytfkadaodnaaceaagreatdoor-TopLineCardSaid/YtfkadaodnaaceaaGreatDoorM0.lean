/- Assertions on the heap, kept apart: rules that hold of each program. -/
import Derived.Tactics2
import Derived.Orders
import Derived.KernelRfl
import Derived.LoopN
import Derived.Laws.World
import Derived.Laws.Sem
import Derived.Laws.Cells
import Derived.Laws.Entries
import Derived.Laws.CopyRow
import Derived.ChangeKeysEq
import Derived.Laws.Tables
import Derived.Laws.Append
import Derived.Laws.AppendOwn
import Derived.Great.BuildSlice
import Derived.Laws.MakeOwn
import Derived.Laws.Small
import Derived.Laws.Bits64
import Derived.Laws.Externs
import Derived.Laws.Concat
import Derived.Laws.IdiomStrings
import Derived.Laws.Strings2
import Derived.Lib.UnsafeStr
import Derived.Deep.AppendSrc
import Derived.MapKept
set_option linter.all false
set_option linter.unusedVariables false
set_option linter.unusedSimpArgs false
/- The separation logic that all walks of this claim use: assertions on parts of the heap, and what holds of them. No program in sight. -/
namespace Go.SL

/-- A part of the heap. -/
abbrev Hp := Nat → Option Obj
def Hp.emp : Hp := fun _ => none
def Hp.sub (h : Hp) (w : World) : Prop := ∀ k o, h k = some o → w.heap[k]? = some o
def Hp.disj (h g : Hp) : Prop := ∀ k, h k = none ∨ g k = none
def Hp.un (h g : Hp) : Hp := fun k => (h k).or (g k)
def Hp.le (h g : Hp) : Prop := ∀ k o, h k = some o → g k = some o
/-- An assertion. -/
abbrev As := Hp → Prop

/-- What is kept as it is: a part of the heap, and the world's other parts. -/
structure Cx where
  hp : Hp
  os : Os
  tape : Nat → Question → Nat
  output : Array (Nat × ByteArray)

def Cx.with (c : Cx) (h : Hp) : Cx := { c with hp := h.un c.hp }
structure Cx.le (c d : Cx) : Prop where
  hp : c.hp.le d.hp
  os : d.os = c.os
  tape : d.tape = c.tape
  output : d.output = c.output

def Sat : List As → Cx → World → Prop
  | [], c, w => c.hp.sub w ∧ w.os = c.os ∧ w.tape = c.tape ∧ w.output = c.output
  | A :: L, c, w => ∃ h, A h ∧ h.disj c.hp ∧ Sat L (c.with h) w

theorem Cx.le_refl (c : Cx) : c.le c := ⟨fun _ _ h => h, rfl, rfl, rfl⟩
theorem Cx.le_trans {a b c : Cx} (h : a.le b) (k : b.le c) : a.le c :=
  ⟨fun i o x => k.hp i o (h.hp i o x), k.os.trans h.os, k.tape.trans h.tape, k.output.trans h.output⟩
theorem Hp.disj_symm {h g : Hp} (d : h.disj g) : g.disj h := fun k => (d k).symm
theorem Hp.un_none {h g : Hp} {k : Nat} : (h.un g) k = none ↔ h k = none ∧ g k = none := by
  unfold Hp.un; cases h k <;> simp
theorem Hp.le_un_right {h g : Hp} (d : h.disj g) : g.le (h.un g) := by
  intro k o hk
  rcases d k with e | e
  · simp [Hp.un, e, hk]
  · rw [e] at hk; cases hk
theorem Hp.le_un_left {h g : Hp} : h.le (h.un g) := by
  intro k o hk; simp [Hp.un, hk]
theorem Cx.le_with {c : Cx} {h : Hp} (d : h.disj c.hp) : c.le (c.with h) := ⟨Hp.le_un_right d, rfl, rfl, rfl⟩

theorem Hp.un_comm {h g : Hp} (d : h.disj g) : h.un g = g.un h := by
  funext k
  unfold Hp.un
  rcases d k with e | e <;> rw [e] <;> simp
theorem Hp.un_assoc (a b c : Hp) : (a.un b).un c = a.un (b.un c) := by
  funext k; unfold Hp.un; cases a k <;> simp
theorem Hp.disj_un {a b c : Hp} : a.disj (b.un c) ↔ a.disj b ∧ a.disj c := by
  constructor
  · intro h
    refine ⟨fun k => ?_, fun k => ?_⟩ <;> rcases h k with e | e
    · exact .inl e
    · exact .inr (Hp.un_none.1 e).1
    · exact .inl e
    · exact .inr (Hp.un_none.1 e).2
  · rintro ⟨h1, h2⟩ k
    rcases h1 k with e | e
    · exact .inl e
    · rcases h2 k with e2 | e2
      · exact .inl e2
      · exact .inr (Hp.un_none.2 ⟨e, e2⟩)
theorem Cx.with_with (c : Cx) (a b : Hp) : (c.with a).with b = { c with hp := b.un (a.un c.hp) } := rfl

theorem Sat.swap {A B : As} {L : List As} {c : Cx} {w : World} (h : Sat (A :: B :: L) c w) : Sat (B :: A :: L) c w := by
  obtain ⟨a, ha, da, b, hb, db, hl⟩ := h
  have db' : b.disj (a.un c.hp) := db
  obtain ⟨dba, dbc⟩ := Hp.disj_un.1 db'
  refine ⟨b, hb, dbc, a, ha, ?_, ?_⟩
  · exact Hp.disj_un.2 ⟨Hp.disj_symm dba, da⟩
  · have e : (c.with b).with a = (c.with a).with b := by
      simp only [Cx.with_with]
      congr 1
      rw [← Hp.un_assoc, ← Hp.un_assoc, Hp.un_comm dba]
    rw [e]; exact hl

theorem Sat.cons_mono {A : As} {L M : List As} {c : Cx} {w : World} (hLM : ∀ c w, Sat L c w → Sat M c w) (h : Sat (A :: L) c w) : Sat (A :: M) c w := by
  obtain ⟨a, ha, da, hl⟩ := h
  exact ⟨a, ha, da, hLM _ _ hl⟩

theorem Sat.perm {L M : List As} (p : L.Perm M) : ∀ {c : Cx} {w : World}, Sat L c w → Sat M c w := by
  induction p with
  | nil => exact id
  | cons A _ ih => intro c w h; exact Sat.cons_mono (fun _ _ => ih) h
  | swap A B L => intro c w h; exact Sat.swap h
  | trans _ _ ih1 ih2 => intro c w h; exact ih2 (ih1 h)

theorem Hp.disj_mono {h g g' : Hp} (l : g'.le g) (d : h.disj g) : h.disj g' := fun k => by
  rcases d k with e | e
  · exact .inl e
  · refine .inr ?_
    cases hg : g' k with
    | none => rfl
    | some o => rw [l k o hg] at e; cases e
theorem Hp.un_mono {h g g' : Hp} (l : g'.le g) : (h.un g').le (h.un g) := by
  intro k o hk
  unfold Hp.un at *
  cases hh : h k with
  | some x => rw [hh] at hk; simpa using hk
  | none => rw [hh] at hk; simp at hk ⊢; exact l k o hk

theorem Sat.mono : ∀ {L : List As} {c d : Cx} {w : World}, c.le d → Sat L d w → Sat L c w
  | [], c, d, w, l, h => ⟨fun k o hk => h.1 k o (l.hp k o hk), h.2.1.trans l.os, h.2.2.1.trans l.tape, h.2.2.2.trans l.output⟩
  | A :: L, c, d, w, l, h => by
    obtain ⟨a, ha, da, hl⟩ := h
    exact ⟨a, ha, Hp.disj_mono l.hp da, Sat.mono (c := c.with a) (d := d.with a) ⟨Hp.un_mono l.hp, l.os, l.tape, l.output⟩ hl⟩

theorem Sat.drop {A : As} {L : List As} {c : Cx} {w : World} (h : Sat (A :: L) c w) : Sat L c w := by
  obtain ⟨a, _, da, hl⟩ := h
  exact hl.mono (Cx.le_with da)

theorem Sat.nil_of {L : List As} {c : Cx} {w : World} (h : Sat L c w) : Sat [] c w := by
  induction L generalizing c with
  | nil => exact h
  | cons A L ih =>
    obtain ⟨a, _, da, hl⟩ := h
    exact (ih hl).mono (Cx.le_with da)

/-- The frame: what a list leaves over goes into what is kept. -/
theorem Sat.append {L F : List As} {c : Cx} {w : World} (h : Sat (L ++ F) c w) : ∃ d, c.le d ∧ Sat L d w ∧ ∀ M w', Sat M d w' → Sat (M ++ F) c w' := by
  induction F generalizing L c with
  | nil => exact ⟨c, c.le_refl, by simpa using h, fun M w' hm => by simpa using hm⟩
  | cons A F ih =>
    have hp : (L ++ A :: F).Perm (A :: (L ++ F)) := List.perm_middle
    obtain ⟨a, ha, da, hl⟩ := Sat.perm hp h
    obtain ⟨d, hle, hd, hm⟩ := ih hl
    refine ⟨d, Cx.le_trans (Cx.le_with da) hle, hd, fun M w' hM => ?_⟩
    exact Sat.perm (List.perm_middle (l₁ := M)).symm ⟨a, ha, da, hm M w' hM⟩

/-- One assertion is taken out of a list. -/
inductive Rem : List As → As → List As → Prop
  | here {A : As} {L : List As} : Rem (A :: L) A L
  | there {A B : As} {L M : List As} (h : Rem L A M) : Rem (B :: L) A (B :: M)
inductive Sel : List As → List As → List As → Prop
  | nil {L : List As} : Sel L [] L
  | cons {L M F : List As} {A : As} {P : List As} (h : Rem L A M) (k : Sel M P F) : Sel L (A :: P) F
theorem Rem.perm {L M : List As} {A : As} (h : Rem L A M) : L.Perm (A :: M) := by
  induction h with
  | here => exact .refl _
  | there _ ih => exact (ih.cons _).trans (.swap ..)
theorem Sel.perm {L P F : List As} (h : Sel L P F) : L.Perm (P ++ F) := by
  induction h with
  | nil => exact .refl _
  | cons h _ ih => exact h.perm.trans (ih.cons _)
theorem Sat.sel {L P F : List As} {c : Cx} {w : World} (s : Sel L P F) (h : Sat L c w) : Sat (P ++ F) c w := Sat.perm s.perm h
theorem Sat.rem {L M : List As} {A : As} {c : Cx} {w : World} (s : Rem L A M) (h : Sat L c w) : Sat (A :: M) c w := Sat.perm s.perm h
theorem Sat.only {L P F : List As} {c : Cx} {w : World} (s : Sel L P F) (h : Sat L c w) : Sat P c w := by
  obtain ⟨d, hle, hd, _⟩ := Sat.append (Sat.sel s h)
  exact hd.mono hle

/-- One block. -/
def ob (b : Nat) (o : Obj) : As := fun h => h = fun k => if k = b then some o else none
/-- A block of cells. -/
def pt (b : Nat) (T : TypeId) (l : List Value) : As := ob b (.cells l.toArray T (0, 0))
/-- Several assertions in one. -/
def sepL : List As → As
  | [] => fun h => h = Hp.emp
  | A :: L => fun h => ∃ a b, A a ∧ sepL L b ∧ a.disj b ∧ h = a.un b
/-- With a fact. -/
def pand (p : Prop) (A : As) : As := fun h => p ∧ A h

theorem Hp.emp_un (g : Hp) : Hp.emp.un g = g := by funext k; simp [Hp.un, Hp.emp]
theorem Hp.emp_disj (g : Hp) : Hp.emp.disj g := fun _ => .inl rfl

theorem Sat.sepL_iff {L M : List As} {c : Cx} {w : World} : Sat (sepL L :: M) c w ↔ Sat (L ++ M) c w := by
  induction L generalizing c with
  | nil =>
    constructor
    · rintro ⟨h, rfl, d, k⟩
      have : c.with Hp.emp = c := by cases c; simp [Cx.with, Hp.emp_un]
      rw [this] at k; exact k
    · intro k
      refine ⟨Hp.emp, rfl, Hp.emp_disj _, ?_⟩
      have : c.with Hp.emp = c := by cases c; simp [Cx.with, Hp.emp_un]
      rw [this]; exact k
  | cons A L ih =>
    constructor
    · rintro ⟨h, ⟨a, b, ha, hb, dab, rfl⟩, d, k⟩
      have d1 := Hp.disj_symm d
      obtain ⟨dca, dcb⟩ := Hp.disj_un.1 d1
      refine ⟨a, ha, Hp.disj_symm dca, ih.1 ⟨b, hb, ?_, ?_⟩⟩
      · exact Hp.disj_un.2 ⟨Hp.disj_symm dab, Hp.disj_symm dcb⟩
      · have e : (c.with a).with b = c.with (a.un b) := by
          simp only [Cx.with]
          congr 1
          rw [← Hp.un_assoc, Hp.un_comm (Hp.disj_symm dab)]
        rw [e]; exact k
    · rintro ⟨a, ha, da, k⟩
      obtain ⟨b, hb, db, k⟩ := ih.2 k
      obtain ⟨dba, dbc⟩ := Hp.disj_un.1 (show b.disj (a.un c.hp) from db)
      refine ⟨a.un b, ⟨a, b, ha, hb, Hp.disj_symm dba, rfl⟩, ?_, ?_⟩
      · exact Hp.disj_symm (Hp.disj_un.2 ⟨Hp.disj_symm da, Hp.disj_symm dbc⟩)
      · have e : (c.with a).with b = c.with (a.un b) := by
          simp only [Cx.with]
          congr 1
          rw [← Hp.un_assoc, Hp.un_comm dba]
        rw [← e]; exact k

theorem Sat.pand_iff {p : Prop} {A : As} {M : List As} {c : Cx} {w : World} : Sat (pand p A :: M) c w ↔ p ∧ Sat (A :: M) c w := by
  constructor
  · rintro ⟨h, ⟨hp, ha⟩, d, k⟩; exact ⟨hp, h, ha, d, k⟩
  · rintro ⟨hp, h, ha, d, k⟩; exact ⟨h, ⟨hp, ha⟩, d, k⟩
theorem Sat.ex_iff {α : Type} {A : α → As} {M : List As} {c : Cx} {w : World} : Sat ((fun h => ∃ x, A x h) :: M) c w ↔ ∃ x, Sat (A x :: M) c w := by
  constructor
  · rintro ⟨h, ⟨x, ha⟩, d, k⟩; exact ⟨x, h, ha, d, k⟩
  · rintro ⟨x, h, ha, d, k⟩; exact ⟨h, ⟨x, ha⟩, d, k⟩

/-! ### What a list says of the world -/
theorem Sat.keeps {L : List As} {c : Cx} {w : World} (h : Sat L c w) {k : Nat} {o : Obj} (hk : c.hp k = some o) : w.heap[k]? = some o := (h.nil_of).1 k o hk
theorem Sat.block {b : Nat} {o : Obj} {L : List As} {c : Cx} {w : World} (h : Sat (ob b o :: L) c w) : w.heap[b]? = some o := by
  obtain ⟨a, rfl, _, k⟩ := h
  exact k.keeps (by simp [Cx.with, Hp.un])
theorem Sat.block_mem {b : Nat} {o : Obj} {L : List As} {c : Cx} {w : World} (hm : ob b o ∈ L) (h : Sat L c w) : w.heap[b]? = some o := by
  obtain ⟨L1, L2, rfl⟩ := List.append_of_mem hm
  exact (Sat.perm List.perm_middle h).block

/-- Another object in the place of one. -/
theorem Sat.set {b : Nat} {o o' : Obj} {L : List As} {c : Cx} {w w' : World} (h : Sat (ob b o :: L) c w)
    (hb : w'.heap[b]? = some o') (hk : ∀ k, k ≠ b → w'.heap[k]? = w.heap[k]?) (h1 : w'.os = w.os) (h2 : w'.tape = w.tape) (h3 : w'.output = w.output) : Sat (ob b o' :: L) c w' := by
  obtain ⟨a, rfl, da, k⟩ := h
  have dc : c.hp b = none := by
    rcases da b with e | e
    · simp at e
    · exact e
  refine ⟨_, rfl, ?_, ?_⟩
  · intro k
    by_cases e : k = b
    · subst e; exact .inr dc
    · exact .inl (by simp [e])
  · clear da
    generalize hd : c.with (fun k => if k = b then some o else none) = d at k
    have key : ∀ (L : List As) (d d' : Cx), (d.hp b = some o) → (d'.hp b = some o') → (∀ k, k ≠ b → d'.hp k = d.hp k) → d'.os = d.os → d'.tape = d.tape → d'.output = d.output → Sat L d w → Sat L d' w' := by
      intro L
      induction L with
      | nil =>
        intro d d' e1 e2 e3 e4 e5 e6 hs
        refine ⟨fun k x hx => ?_, ?_, ?_, ?_⟩
        · by_cases e : k = b
          · subst e; rw [e2] at hx; rw [hb]; exact hx
          · rw [e3 k e] at hx; rw [hk k e]; exact hs.1 k x hx
        · rw [h1, e4]; exact hs.2.1
        · rw [h2, e5]; exact hs.2.2.1
        · rw [h3, e6]; exact hs.2.2.2
      | cons A L ih =>
        intro d d' e1 e2 e3 e4 e5 e6 hs
        obtain ⟨x, hx, dx, hs⟩ := hs
        have xb : x b = none := by
          rcases dx b with e | e
          · exact e
          · rw [e1] at e; cases e
        refine ⟨x, hx, fun k => ?_, ih (d.with x) (d'.with x) ?_ ?_ ?_ e4 e5 e6 hs⟩
        · by_cases e : k = b
          · subst e; exact .inl xb
          · rw [e3 k e]; exact dx k
        · simp [Cx.with, Hp.un, xb, e1]
        · simp [Cx.with, Hp.un, xb, e2]
        · intro k e; simp [Cx.with, Hp.un, e3 k e]
    refine key L d _ ?_ ?_ ?_ ?_ ?_ ?_ k
    · rw [← hd]; simp [Cx.with, Hp.un]
    · simp [Cx.with, Hp.un]
    · intro k e; rw [← hd]; simp [Cx.with, Hp.un, e]
    · rw [← hd]; rfl
    · rw [← hd]; rfl
    · rw [← hd]; rfl

theorem Sat.upd {L : List As} {c : Cx} {w w' : World} (h : Sat L c w)
    (hk : ∀ (k : Nat) (o : Obj), w.heap[k]? = some o → w'.heap[k]? = some o) (h1 : w'.os = w.os) (h2 : w'.tape = w.tape) (h3 : w'.output = w.output) : Sat L c w' := by
  induction L generalizing c with
  | nil => exact ⟨fun k o hx => hk k o (h.1 k o hx), h1.trans h.2.1, h2.trans h.2.2.1, h3.trans h.2.2.2⟩
  | cons A L ih =>
    obtain ⟨a, ha, da, k⟩ := h
    exact ⟨a, ha, da, ih k⟩

/-- A new block. -/
theorem Sat.new {L : List As} {c : Cx} {w : World} (h : Sat L c w) (o : Obj) : Sat (ob w.heap.size o :: L) c { w with heap := w.heap.push o } := by
  have key : ∀ (L : List As) (d d' : Cx), (d.hp w.heap.size = none) → (d'.hp w.heap.size = some o) → (∀ k, k ≠ w.heap.size → d'.hp k = d.hp k) → d'.os = d.os → d'.tape = d.tape → d'.output = d.output → Sat L d w → Sat L d' { w with heap := w.heap.push o } := by
    intro L
    induction L with
    | nil =>
      intro d d' e1 e2 e3 e4 e5 e6 hs
      refine ⟨fun k x hx => ?_, ?_, ?_, ?_⟩
      · by_cases e : k = w.heap.size
        · subst e; rw [e2] at hx; simpa using hx
        · rw [e3 k e] at hx
          have := hs.1 k x hx
          show (w.heap.push o)[k]? = some x
          rw [Array.getElem?_push, if_neg e]; exact this
      · rw [e4]; exact hs.2.1
      · rw [e5]; exact hs.2.2.1
      · rw [e6]; exact hs.2.2.2
    | cons A L ih =>
      intro d d' e1 e2 e3 e4 e5 e6 hs
      obtain ⟨x, hx, dx, hs⟩ := hs
      have xb : x w.heap.size = none := by
        cases hxx : x w.heap.size with
        | none => rfl
        | some y =>
          have := hs.keeps (k := w.heap.size) (o := y) (by simp [Cx.with, Hp.un, hxx])
          simp at this
      refine ⟨x, hx, fun k => ?_, ih (d.with x) (d'.with x) ?_ ?_ ?_ e4 e5 e6 hs⟩
      · by_cases e : k = w.heap.size
        · subst e; exact .inl xb
        · rw [e3 k e]; exact dx k
      · simp [Cx.with, Hp.un, xb, e1]
      · simp [Cx.with, Hp.un, xb, e2]
      · intro k e; simp [Cx.with, Hp.un, e3 k e]
  have dc : c.hp w.heap.size = none := by
    cases hc : c.hp w.heap.size with
    | none => rfl
    | some y =>
      have := h.keeps hc
      simp at this
  refine ⟨_, rfl, ?_, ?_⟩
  · intro k
    by_cases e : k = w.heap.size
    · subst e; exact .inr dc
    · exact .inl (by simp [e])
  · refine key L c _ dc ?_ ?_ rfl rfl rfl h
    · simp [Cx.with, Hp.un]
    · intro k e; simp [Cx.with, Hp.un, e]

end Go.SL
/- Walks over symbolic frames: what a piece of code comes to, from a frame of which some slots are known and a heap of which some assertions are known. Over any program. -/
namespace Go.SL

abbrev Fr := List (Nat × Value)
def Fr.get : Fr → Nat → Option Value
  | [], _ => none
  | (s, v) :: r, t => bif Nat.beq s t then some v else Fr.get r t
def ev (fr : Fr) : Operand → Option Value
  | .tmp t => fr.get t
  | .const v => some v
  | .global g => some (.pointer (some ⟨g, 0, none⟩))
  | .func f => some (.func (.func f) #[] #[])

structure Fits (n : Nat) (fr : Fr) (a : Act) : Prop where
  defers : a.defers = []
  size : a.tmps.size = n
  slots : ∀ t v, fr.get t = some v → a.tmps[t]? = some v

theorem Fits.eval {n : Nat} {fr : Fr} {a : Act} (h : Fits n fr a) {x : Operand} {v : Value} (hv : ev fr x = some v) : a.eval x = v := by
  cases x with
  | tmp t => have := h.slots t v hv; simp [Act.eval, this]
  | const u => simpa [ev, Act.eval] using hv
  | global g => simpa [ev, Act.eval] using hv
  | func f => simpa [ev, Act.eval] using hv

theorem blt_lt {d n : Nat} (h : Nat.blt d n = true) : d < n := by simp [Nat.blt] at h; omega
theorem Fr.get_cons {s : Nat} {v : Value} {r : Fr} {t : Nat} : Fr.get ((s, v) :: r) t = if s = t then some v else Fr.get r t := by
  simp only [Fr.get]
  by_cases h : s = t
  · subst h; simp
  · have e0 : Nat.beq s t = false := by
      cases e : Nat.beq s t with
      | false => rfl
      | true => exact absurd (Nat.eq_of_beq_eq_true e) h
    rw [e0]; simp [h]

theorem Fits.put {n : Nat} {fr : Fr} {a : Act} (h : Fits n fr a) {d : Nat} (hd : d < n) (v : Value) : Fits n ((d, v) :: fr) (a.put (some d) v) := by
  refine ⟨h.defers, by simp [Act.put, h.size], fun t u hu => ?_⟩
  rw [Fr.get_cons] at hu
  simp only [Act.put, Array.getElem?_setIfInBounds]
  split at hu
  · rename_i e; subst e
    simp at hu; subst hu
    simp [h.size, hd]
  · rename_i e
    rw [if_neg e]; exact h.slots t u hu

def Sub : Fr → Fr → Prop
  | [], _ => True
  | (t, v) :: r, fr => fr.get t = some v ∧ Sub r fr
theorem Sub.get {r fr : Fr} (h : Sub r fr) : ∀ t v, r.get t = some v → fr.get t = some v := by
  induction r with
  | nil => intro t v h; cases h
  | cons x r ih =>
    intro t v hv
    obtain ⟨s, u⟩ := x
    rw [Fr.get_cons] at hv
    split at hv
    · rename_i e; subst e; simp at hv; subst hv; exact h.1
    · exact ih h.2 t v hv
theorem Fits.sub {n : Nat} {fr r : Fr} {a : Act} (h : Fits n fr a) (s : Sub r fr) : Fits n r a := ⟨h.defers, h.size, fun t v hv => h.slots t v (s.get t v hv)⟩

def NoX : Exit → Act → World → Prop := fun _ _ _ => False
/-- Operations in a given order. Flag 0: it yields a value, whatever the world is; 1: it yields its value in the world at hand; 2: it may turn the world; 3: it yields its value in each world that meets S; 4: it may turn the world, and keeps S. -/
def TOps (P : Program) (ops : Array Oper) (Q : Exit → Act → World → Prop) (S : World → Prop) : List Nat → List Oper → Act → World → Prop
  | _, [], a, w => Q .normal a w
  | fl, o :: rest, a, w =>
    if Region.wanted o (yielded ops a.tmps) then
      match fl.headD 2 with
      | 0 => ∃ v, (∀ w', (execOp a.eval o).run P w' = .ok (.value v) w') ∧ TOps P ops Q S fl.tail rest (a.put o.dst v) w
      | 1 => ∃ v, (execOp a.eval o).run P w = .ok (.value v) w ∧ TOps P ops Q S fl.tail rest (a.put o.dst v) w
      | 3 => S w ∧ ∃ v, (∀ w', S w' → (execOp a.eval o).run P w' = .ok (.value v) w') ∧ TOps P ops Q S fl.tail rest (a.put o.dst v) w
      | 4 => o.wp P a w (fun a' w' => S w' ∧ TOps P ops Q S fl.tail rest a' w') NoX
      | _ => o.wp P a w (TOps P ops Q S fl.tail rest) NoX
    else (fl.headD 2 = 3 → S w) ∧ (fl.headD 2 = 4 → S w) ∧ TOps P ops Q S fl.tail rest (a.put o.dst undef) w

theorem Oper.wp_noX {P : Program} {o : Oper} {a : Act} {w : World} {K : Act → World → Prop} {Q : Exit → Act → World → Prop} (h : o.wp P a w K NoX) : o.wp P a w K Q := by
  unfold Oper.wp at *
  generalize (execOp a.eval o).run P w = r at *
  cases r with
  | ok n w' =>
    cases n <;> simp only [Oper.upon] at h ⊢ <;>
      first
        | exact h
        | exact Calls.mono h (fun e w'' he => by cases e <;> first | exact he | exact he.elim | (obtain ⟨_, _, he⟩ := he; exact he.elim))
  | halt x w' => cases x <;> simp only [Oper.upon] at h ⊢ <;> first | exact h | exact h.elim

section
variable {P : Program} {c : Cx} {n : Nat} {ops : Array Oper} {Q : Exit → Act → World → Prop} {fr : Fr} {L Ls : List As}

def Ent (c : Cx) (n : Nat) (Q : Exit → Act → World → Prop) (e : Exit) (fr : Fr) (L : List As) : Prop := ∀ a w, Fits n fr a → Sat L c w → Q e a w
def Cd (P : Program) (c : Cx) (n : Nat) (code : Code) (fr : Fr) (L : List As) (Q : Exit → Act → World → Prop) : Prop := ∀ a w, Fits n fr a → Sat L c w → code.wp P Q a w
def Op (P : Program) (c : Cx) (n : Nat) (ops : Array Oper) (Q : Exit → Act → World → Prop) (Ls : List As) (fl : List Nat) (l : List Oper) (fr : Fr) (L : List As) : Prop :=
  ∀ a w, Fits n fr a → Sat L c w → TOps P ops Q (Sat Ls c) fl l a w

/-- What an operation yields, the world left alone. -/
def Yf (P : Program) (n : Nat) (fr : Fr) (o : Oper) (v : Value) : Prop := ∀ a w, Fits n fr a → (execOp a.eval o).run P w = .ok (.value v) w
def Yl (P : Program) (c : Cx) (n : Nat) (fr : Fr) (L : List As) (o : Oper) (v : Value) : Prop :=
  ∀ a w, Fits n fr a → Sat L c w → (execOp a.eval o).run P w = .ok (.value v) w

theorem TOps.list {S : World → Prop} {fl : List Nat} {l : List Oper} {a : Act} {w : World} (h : TOps P ops Q S fl l a w) : wpList P ops Q l a w := by
  induction l generalizing fl a w with
  | nil => exact h
  | cons o l ih =>
    unfold TOps at h
    unfold wpList
    split
    · rename_i hw
      rw [if_pos hw] at h
      refine .inl ?_
      split at h
      · obtain ⟨v, hr, h⟩ := h
        unfold Oper.wp
        rw [hr w]
        exact ih h
      · obtain ⟨v, hr, h⟩ := h
        unfold Oper.wp
        rw [hr]
        exact ih h
      · obtain ⟨hS, v, hr, h⟩ := h
        unfold Oper.wp
        rw [hr w hS]
        exact ih h
      · exact Oper.wp_mono (fun a w h => ih h.2) (Oper.wp_noX h)
      · exact Oper.wp_mono (fun a w h => ih h) (Oper.wp_noX h)
    · rename_i hw
      rw [if_neg hw] at h
      exact ih h.2.2

/-! ### Code -/
/-- What stands behind: y, then Q. -/
def Thn (P : Program) (y : Code) (Q : Exit → Act → World → Prop) : Exit → Act → World → Prop := Exit.then (y.wp P Q) Q
theorem cd_seq {x y : Code} (h : Cd P c n x fr L (Thn P y Q)) : Cd P c n (.seq x y) fr L Q := fun a w hf hs => wp_seq (h a w hf hs)
theorem cd_skip (h : Ent c n Q .normal fr L) : Cd P c n .skip fr L Q := fun a w hf hs => wp_skip (h a w hf hs)
theorem cd_ret (h : Ent c n Q .ret fr L) : Cd P c n .ret fr L Q := fun a w hf hs => wp_ret (h a w hf hs)
theorem cd_exit {id : Nat} (h : Ent c n Q (.exit id) fr L) : Cd P c n (.exit id) fr L Q := fun a w hf hs => wp_exit (h a w hf hs)
theorem cd_block {id : Nat} {x : Code} (h : Cd P c n x fr L (Exit.inBlock id Q)) : Cd P c n (.block id x) fr L Q := fun a w hf hs => wp_block (h a w hf hs)
theorem cd_if {x y : Code} {t : Operand} {b : Bool} (hc : ev fr t = some (.bool b)) (ht : b = true → Cd P c n x fr L Q) (hf : b = false → Cd P c n y fr L Q) : Cd P c n (.cond t x y) fr L Q :=
  fun a w hfit hs => wp_cond_split (hfit.eval hc) (fun e => ht e a w hfit hs) (fun e => hf e a w hfit hs)
theorem cd_ift {x y : Code} {t : Operand} (hc : ev fr t = some (.bool true)) (ht : Cd P c n x fr L Q) : Cd P c n (.cond t x y) fr L Q :=
  fun a w hfit hs => wp_cond_true (hfit.eval hc) (ht a w hfit hs)
theorem cd_iff {x y : Code} {t : Operand} (hc : ev fr t = some (.bool false)) (ht : Cd P c n y fr L Q) : Cd P c n (.cond t x y) fr L Q :=
  fun a w hfit hs => wp_cond_false (hfit.eval hc) (ht a w hfit hs)
theorem cd_region {id : Nat} {l : List Oper} (fl : List Nat) (h : Op P c n l.toArray Q [] fl l fr L) : Cd P c n (.region id l.toArray false) fr L Q :=
  fun a w hf hs => wp_region_lit (h a w hf hs).list

/-! ### What stands behind -/
theorem ent_then {y : Code} (h : Cd P c n y fr L Q) : Ent c n (Thn P y Q) .normal fr L := h
theorem ent_thn_ret {y : Code} (h : Ent c n Q .ret fr L) : Ent c n (Thn P y Q) .ret fr L := h
theorem ent_thn_exit {y : Code} {id : Nat} (h : Ent c n Q (.exit id) fr L) : Ent c n (Thn P y Q) (.exit id) fr L := h
theorem ent_then_ret {K : Act → World → Prop} (h : Ent c n Q .ret fr L) : Ent c n (Exit.then K Q) .ret fr L := h
theorem ent_then_exit {K : Act → World → Prop} {id : Nat} (h : Ent c n Q (.exit id) fr L) : Ent c n (Exit.then K Q) (.exit id) fr L := h
theorem ent_block {id : Nat} (h : Ent c n Q .normal fr L) : Ent c n (Exit.inBlock id Q) .normal fr L := h
theorem ent_block_ret {id : Nat} (h : Ent c n Q .ret fr L) : Ent c n (Exit.inBlock id Q) .ret fr L := h
theorem ent_block_exit {id : Nat} (h : Ent c n Q .normal fr L) : Ent c n (Exit.inBlock id Q) (.exit id) fr L := fun a w hf hs => by
  simp only [Exit.inBlock, if_true]; exact h a w hf hs
theorem ent_block_pass {id id' : Nat} (hne : Nat.beq id' id = false) (h : Ent c n Q (.exit id') fr L) : Ent c n (Exit.inBlock id Q) (.exit id') fr L := fun a w hf hs => by
  have : id' ≠ id := by intro e; subst e; simp at hne
  simp only [Exit.inBlock, if_neg this]; exact h a w hf hs

/-! ### Loops -/
def Back (c : Cx) (n : Nat) {α : Type} (I : α → Prop) (m : α → Nat) (F : α → Fr) (M : α → List As) (k : Nat) (a : Act) (w : World) : Prop :=
  ∃ y, I y ∧ m y < k ∧ Fits n (F y) a ∧ Sat (M y) c w
theorem cd_loop {body : Code} {α : Type} (I : α → Prop) (m : α → Nat) (F : α → Fr) (M : α → List As) (x0 : α) (h0 : I x0) (hF : Sub (F x0) fr) (hL : ∀ w, Sat L c w → Sat (M x0) c w)
    (round : ∀ x, I x → Cd P c n body (F x) (M x) (Exit.then (Back c n I m F M (m x)) Q)) : Cd P c n (.loop body) fr L Q := fun a w hf hs => by
  have key : ∀ k x, m x < k → I x → ∀ a w, Fits n (F x) a → Sat (M x) c w → Code.rounds P body Q k a w := by
    intro k
    induction k with
    | zero => intro x hx; exact absurd hx (by omega)
    | succ k ih =>
      intro x hx hI a w hf hs
      refine wp_mono (round x hI a w hf hs) ?_
      intro e a' w' he
      cases e with
      | normal =>
        obtain ⟨y, hy, hm, hf', hs'⟩ := he
        exact ih y (by omega) hy a' w' hf' hs'
      | _ => exact he
  exact wp_loop_rounds _ (key (m x0 + 1) x0 (by omega) h0 a w (hf.sub hF) (hL w hs))
theorem ent_back {α : Type} {I : α → Prop} {m : α → Nat} {F : α → Fr} {M : α → List As} {k : Nat} (y : α) (hI : I y) (hm : m y < k) (hF : Sub (F y) fr) (hL : ∀ w, Sat L c w → Sat (M y) c w) :
    Ent c n (Exit.then (Back c n I m F M k) Q) .normal fr L := fun a w hf hs => ⟨y, hI, hm, hf.sub hF, hL w hs⟩

/-- Round by round. -/
theorem cd_rounds {body : Code} (k : Nat) (h : Cd P c n body fr L (Exit.then (Code.rounds P body Q k) Q)) : Cd P c n (.loop body) fr L Q := fun a w hf hs => wp_loop_rounds (k + 1) (h a w hf hs)
theorem ent_round {body : Code} {k : Nat} (h : Cd P c n body fr L (Exit.then (Code.rounds P body Q k) Q)) : Ent c n (Exit.then (Code.rounds P body Q (k + 1)) Q) .normal fr L := fun a w hf hs => h a w hf hs

/-! ### Ways that meet again -/
def Join (c : Cx) (n : Nat) {α : Type} (I : α → Prop) (F : α → Fr) (M : α → List As) (a : Act) (w : World) : Prop := ∃ y, I y ∧ Fits n (F y) a ∧ Sat (M y) c w
theorem cd_cut {x y : Code} {α : Type} (I : α → Prop) (F : α → Fr) (M : α → List As) (h1 : Cd P c n x fr L (Exit.then (Join c n I F M) Q)) (h2 : ∀ z, I z → Cd P c n y (F z) (M z) Q) : Cd P c n (.seq x y) fr L Q :=
  fun a w hf hs => wp_seq (wp_mono (h1 a w hf hs) fun e a' w' he => by
    cases e with
    | normal => obtain ⟨z, hI, hf', hs'⟩ := he; exact h2 z hI a' w' hf' hs'
    | _ => exact he)
theorem ent_join {α : Type} {I : α → Prop} {F : α → Fr} {M : α → List As} (y : α) (hI : I y) (hF : Sub (F y) fr) (hL : ∀ w, Sat L c w → Sat (M y) c w) :
    Ent c n (Exit.then (Join c n I F M) Q) .normal fr L := fun a w hf hs => ⟨y, hI, hf.sub hF, hL w hs⟩

/-! ### Consequence -/
theorem cd_weak {code : Code} {fr' : Fr} (hs : Sub fr' fr) (h : Cd P c n code fr' L Q) : Cd P c n code fr L Q := fun a w hf hw => h a w (hf.sub hs) hw
theorem cd_open {code : Code} {α : Type} {p : α → Prop} {L' : α → List As} (ho : ∀ w, Sat L c w → ∃ x, p x ∧ Sat (L' x) c w) (h : ∀ x, p x → Cd P c n code fr (L' x) Q) : Cd P c n code fr L Q :=
  fun a w hf hw => let ⟨x, hp, hs⟩ := ho w hw; h x hp a w hf hs
theorem cd_to {code : Code} {L' : List As} (ho : ∀ w, Sat L c w → Sat L' c w) (h : Cd P c n code fr L' Q) : Cd P c n code fr L Q := fun a w hf hw => h a w hf (ho w hw)
theorem ent_to {e : Exit} {L' : List As} (ho : ∀ w, Sat L c w → Sat L' c w) (h : Ent c n Q e fr L') : Ent c n Q e fr L := fun a w hf hw => h a w hf (ho w hw)
theorem ent_open {e : Exit} {α : Type} {p : α → Prop} {L' : α → List As} (ho : ∀ w, Sat L c w → ∃ x, p x ∧ Sat (L' x) c w) (h : ∀ x, p x → Ent c n Q e fr (L' x)) : Ent c n Q e fr L :=
  fun a w hf hw => let ⟨x, hp, hs⟩ := ho w hw; h x hp a w hf hs
theorem op_open {fl : List Nat} {l : List Oper} {α : Type} {p : α → Prop} {L' : α → List As} (ho : ∀ w, Sat L c w → ∃ x, p x ∧ Sat (L' x) c w) (h : ∀ x, p x → Op P c n ops Q Ls fl l fr (L' x)) : Op P c n ops Q Ls fl l fr L :=
  fun a w hf hw => let ⟨x, hp, hs⟩ := ho w hw; h x hp a w hf hs
theorem op_to {fl : List Nat} {l : List Oper} {L' : List As} (ho : ∀ w, Sat L c w → Sat L' c w) (h : Op P c n ops Q Ls fl l fr L') : Op P c n ops Q Ls fl l fr L := fun a w hf hw => h a w hf (ho w hw)

theorem cd_openR {code : Code} {A : As} {M : List As} {α : Type} {p : α → Prop} {L' : α → List As} (hr : Rem L A M) (ho : ∀ w, Sat (A :: M) c w → ∃ x, p x ∧ Sat (L' x) c w) (h : ∀ x, p x → Cd P c n code fr (L' x) Q) : Cd P c n code fr L Q :=
  cd_open (fun w hs => ho w (Sat.rem hr hs)) h
theorem op_openR {fl : List Nat} {l : List Oper} {A : As} {M : List As} {α : Type} {p : α → Prop} {L' : α → List As} (hr : Rem L A M) (ho : ∀ w, Sat (A :: M) c w → ∃ x, p x ∧ Sat (L' x) c w) (h : ∀ x, p x → Op P c n ops Q Ls fl l fr (L' x)) : Op P c n ops Q Ls fl l fr L :=
  op_open (fun w hs => ho w (Sat.rem hr hs)) h

/-! ### Operations -/
theorem op_nil {fl : List Nat} (h : Ent c n Q .normal fr L) : Op P c n ops Q Ls fl [] fr L := fun a w hf hs => by unfold TOps; exact h a w hf hs

/-- One that yields a value, whatever the world is. -/
theorem op_y {d : Nat} {op : Go.Op} {ty : TypeId} {pos : String} {aft : Array Edge} {fl : List Nat} {rest : List Oper} {v : Value}
    (hy : Yf P n fr ⟨some d, op, ty, pos, aft, none⟩ v) (hd : Nat.blt d n = true) (h : Op P c n ops Q Ls fl rest ((d, v) :: fr) L) :
    Op P c n ops Q Ls (0 :: fl) (⟨some d, op, ty, pos, aft, none⟩ :: rest) fr L := fun a w hf hs => by
  unfold TOps
  rw [if_pos (by simp [Region.wanted])]
  simp only [List.headD_cons, List.tail_cons]
  exact ⟨v, fun w' => hy a w' hf, h _ _ (hf.put (blt_lt hd) v) hs⟩
/-- One that yields a value in this world. -/
theorem op_r {d : Nat} {op : Go.Op} {ty : TypeId} {pos : String} {aft : Array Edge} {fl : List Nat} {rest : List Oper} {v : Value}
    (hy : Yl P c n fr L ⟨some d, op, ty, pos, aft, none⟩ v) (hd : Nat.blt d n = true) (h : Op P c n ops Q Ls fl rest ((d, v) :: fr) L) :
    Op P c n ops Q Ls (1 :: fl) (⟨some d, op, ty, pos, aft, none⟩ :: rest) fr L := fun a w hf hs => by
  unfold TOps
  rw [if_pos (by simp [Region.wanted])]
  simp only [List.headD_cons, List.tail_cons]
  exact ⟨v, hy a w hf hs, h _ _ (hf.put (blt_lt hd) v) hs⟩

/-- One that yields a value in each world that meets what is kept. -/
theorem op_rs {d : Nat} {op : Go.Op} {ty : TypeId} {pos : String} {aft : Array Edge} {fl : List Nat} {rest : List Oper} {v : Value}
    (hy : Yl P c n fr Ls ⟨some d, op, ty, pos, aft, none⟩ v) (hd : Nat.blt d n = true) (hS : ∀ w, Sat L c w → Sat Ls c w) (h : Op P c n ops Q Ls fl rest ((d, v) :: fr) L) :
    Op P c n ops Q Ls (3 :: fl) (⟨some d, op, ty, pos, aft, none⟩ :: rest) fr L := fun a w hf hs => by
  unfold TOps
  rw [if_pos (by simp [Region.wanted])]
  simp only [List.headD_cons, List.tail_cons]
  exact ⟨hS w hs, v, fun w' hw' => hy a w' hf hw', h _ _ (hf.put (blt_lt hd) v) hs⟩

/-- What a call or a store or a new block comes to. -/
def Ef (P : Program) (c : Cx) (n : Nat) (fr : Fr) (L : List As) (o : Oper) (K : Value → List As → Prop) : Prop :=
  ∀ (X : Exit → Act → World → Prop) a w, Fits n fr a → Sat L c w → ∀ (N : Act → World → Prop), (∀ v L' w', K v L' → Sat L' c w' → N (a.put o.dst v) w') → o.wp P a w N X

theorem op_e {d : Nat} {op : Go.Op} {ty : TypeId} {pos : String} {aft : Array Edge} {fl : List Nat} {rest : List Oper} {K : Value → List As → Prop}
    (he : Ef P c n fr L ⟨some d, op, ty, pos, aft, none⟩ K) (hd : Nat.blt d n = true) (h : ∀ v L', K v L' → Op P c n ops Q Ls fl rest ((d, v) :: fr) L') :
    Op P c n ops Q Ls (2 :: fl) (⟨some d, op, ty, pos, aft, none⟩ :: rest) fr L := fun a w hf hs => by
  unfold TOps
  rw [if_pos (by simp [Region.wanted])]
  simp only [List.headD_cons, List.tail_cons]
  exact he NoX a w hf hs _ fun v L' w' hk hs' => h v L' hk _ _ (hf.put (blt_lt hd) v) hs'
theorem op_e0 {op : Go.Op} {ty : TypeId} {pos : String} {aft : Array Edge} {fl : List Nat} {rest : List Oper} {K : Value → List As → Prop}
    (he : Ef P c n fr L ⟨none, op, ty, pos, aft, none⟩ K) (h : ∀ v L', K v L' → Op P c n ops Q Ls fl rest fr L') :
    Op P c n ops Q Ls (2 :: fl) (⟨none, op, ty, pos, aft, none⟩ :: rest) fr L := fun a w hf hs => by
  unfold TOps
  rw [if_pos (by simp [Region.wanted])]
  simp only [List.headD_cons, List.tail_cons]
  exact he NoX a w hf hs _ fun v L' w' hk hs' => h v L' hk _ _ hf hs'

/-- An effect that keeps what is kept. -/
theorem op_e4 {d : Nat} {op : Go.Op} {ty : TypeId} {pos : String} {aft : Array Edge} {fl : List Nat} {rest : List Oper} {K : Value → List As → Prop}
    (he : Ef P c n fr L ⟨some d, op, ty, pos, aft, none⟩ K) (hd : Nat.blt d n = true) (h : ∀ v L', K v L' → (∀ w, Sat L' c w → Sat Ls c w) ∧ Op P c n ops Q Ls fl rest ((d, v) :: fr) L') :
    Op P c n ops Q Ls (4 :: fl) (⟨some d, op, ty, pos, aft, none⟩ :: rest) fr L := fun a w hf hs => by
  unfold TOps
  rw [if_pos (by simp [Region.wanted])]
  simp only [List.headD_cons, List.tail_cons]
  exact he NoX a w hf hs _ fun v L' w' hk hs' => ⟨(h v L' hk).1 w' hs', (h v L' hk).2 _ _ (hf.put (blt_lt hd) v) hs'⟩
/-- A guard that says yes: as if there were none. -/
theorem op_g {dst : Option Tmp} {op : Go.Op} {ty : TypeId} {pos : String} {aft : Array Edge} {fl : List Nat} {rest : List Oper} {j t : Nat} {b : Bool}
    (hj : (ops[j]?).bind (·.dst) = some t) (hv : fr.get t = some (.bool b)) (h : Op P c n ops Q Ls fl (⟨dst, op, ty, pos, aft, none⟩ :: rest) fr L) :
    Op P c n ops Q Ls fl (⟨dst, op, ty, pos, aft, some (j, b)⟩ :: rest) fr L := fun a w hf hs => by
  have hw : Region.wanted ⟨dst, op, ty, pos, aft, some (j, b)⟩ (yielded ops a.tmps) = true := by
    have := hf.slots t _ hv
    simp [Region.wanted, yielded, hj, this]
  have := h a w hf hs
  unfold TOps at this ⊢
  rw [if_pos (by simp [Region.wanted])] at this
  rw [if_pos hw]
  exact this
/-- A guard that says no: passed over. -/
theorem op_s {d : Nat} {op : Go.Op} {ty : TypeId} {pos : String} {aft : Array Edge} {f : Nat} {fl : List Nat} {rest : List Oper} {j t : Nat} {b : Bool} {u : Value}
    (hj : (ops[j]?).bind (·.dst) = some t) (hv : fr.get t = some u) (hu : u = .bool (!b) ∨ u = undef) (hd : Nat.blt d n = true) (hf34 : Nat.ble f 2 = true ∨ ∀ w, Sat L c w → Sat Ls c w) (h : Op P c n ops Q Ls fl rest ((d, undef) :: fr) L) :
    Op P c n ops Q Ls (f :: fl) (⟨some d, op, ty, pos, aft, some (j, b)⟩ :: rest) fr L := fun a w hf hs => by
  have hw : Region.wanted ⟨some d, op, ty, pos, aft, some (j, b)⟩ (yielded ops a.tmps) = false := by
    have := hf.slots t _ hv
    rcases hu with rfl | rfl
    · simp [Region.wanted, yielded, hj, this]
    · simp [Region.wanted, yielded, hj, this, undef]
  unfold TOps
  rw [if_neg (by simp [hw])]
  simp only [List.headD_cons, List.tail_cons]
  refine ⟨fun e => ?_, fun e => ?_, h _ _ (hf.put (blt_lt hd) undef) hs⟩
  · rcases hf34 with h3 | h3
    · subst e; simp at h3
    · exact h3 w hs
  · rcases hf34 with h3 | h3
    · subst e; simp at h3
    · exact h3 w hs

/-! ### Calls -/
def Ct (P : Program) (f : FuncId) (args : Array Value) (c : Cx) (L : List As) (R : Value → List As → Prop) : Prop :=
  ∀ w, Sat L c w → Calls P f args w fun e w' => ∃ v L', e = .returned v ∧ R v L' ∧ Sat L' c w'

theorem Ct.mono {f : FuncId} {args : Array Value} {R R' : Value → List As → Prop} (h : Ct P f args c L R) (hr : ∀ v L', R v L' → R' v L') : Ct P f args c L R' :=
  fun w hs => (h w hs).mono fun _ _ ⟨v, L', he, hR, hs'⟩ => ⟨v, L', he, hr v L' hR, hs'⟩

theorem Ct.frame {f : FuncId} {args : Array Value} {Lp F : List As} {R : Value → List As → Prop} (hs : Sel L Lp F) (h : ∀ d, c.le d → Ct P f args d Lp R) :
    Ct P f args c L fun v L' => ∃ M, R v M ∧ L' = M ++ F := fun w hw => by
  obtain ⟨d, hle, hd, hback⟩ := Sat.append (Sat.sel hs hw)
  exact (h d hle w hd).mono fun e w' ⟨v, M, he, hR, hM⟩ => ⟨v, M ++ F, he, ⟨M, hR, rfl⟩, hback M w' hM⟩

def evs (fr : Fr) : List Operand → Option (List Value)
  | [] => some []
  | x :: xs => match ev fr x, evs fr xs with
    | some v, some vs => some (v :: vs)
    | _, _ => none
theorem Fits.evals {a : Act} (h : Fits n fr a) : ∀ {xs : List Operand} {vs : List Value}, evs fr xs = some vs → xs.map a.eval = vs
  | [], vs, e => by simpa [evs] using e
  | x :: xs, vs, e => by
    unfold evs at e
    split at e
    · rename_i v us hv hus
      injection e with e; subst e
      simp [h.eval hv, h.evals hus]
    · cases e

def callable (P : Program) (f : FuncId) : Bool := match P.funcs[f]? with
  | some fn => !(fn.name == "runtime.NumGoroutine") && !fn.body.isNone
  | none => false
theorem run_callFunc {f : FuncId} (hc : callable P f = true) (args : Array Value) (w : World) : (callFunc f args).run P w = .ok (.enter f args) w := by
  unfold callable at hc
  cases hf : P.funcs[f]? with
  | none => simp [hf] at hc
  | some fn =>
    simp only [hf, Bool.and_eq_true, Bool.not_eq_true'] at hc
    obtain ⟨h1, h2⟩ := hc
    simp only [callFunc, program, Sem.run_bind, Sem.run, Result.andThen_ok, hf, h1, h2, Bool.false_eq_true, if_false]
    rfl

theorem ef_call {dst : Option Tmp} {f : FuncId} {xs : List Operand} {ats : Array TypeId} {ty : TypeId} {pos : String} {aft : Array Edge} {g : Option (Nat × Bool)} {vs : List Value} {R : Value → List As → Prop}
    (hc : callable P f = true) (hx : evs fr xs = some vs) (h : Ct P f vs.toArray c L R) :
    Ef P c n fr L ⟨dst, .call { callee := .value (.func f), args := xs.toArray, argTypes := ats }, ty, pos, aft, g⟩ R := fun X a w hf hs N hN => by
  have hv := hf.evals hx
  unfold Oper.wp execOp
  simp only [resolve, Act.eval, Deferred.ofValue, Sem.run_bind, Sem.run_pure, Result.andThen_ok, invoke, List.map_toArray, hv, Array.append_empty, Array.empty_append]
  rw [run_callFunc hc]
  refine (h w hs).mono ?_
  rintro e w' ⟨v, L', rfl, hR, hs'⟩
  exact hN v L' w' hR hs'

/-- A call, some assertions given to it. -/
theorem op_c {d f : Nat} {xs : List Operand} {ats : Array TypeId} {ty : TypeId} {pos : String} {aft : Array Edge} {fl : List Nat} {rest : List Oper} {vs : List Value} {Lp F : List As} {R : Value → List As → Prop}
    (hc : callable P f = true) (hx : evs fr xs = some vs) (hd : Nat.blt d n = true) (h : ∀ e, c.le e → Ct P f vs.toArray e Lp R) (hs : Sel L Lp F)
    (hk : ∀ v M, R v M → ∀ G, M ++ F = G → Op P c n ops Q Ls fl rest ((d, v) :: fr) G) :
    Op P c n ops Q Ls (2 :: fl) (⟨some d, .call { callee := .value (.func f), args := xs.toArray, argTypes := ats }, ty, pos, aft, none⟩ :: rest) fr L :=
  op_e (ef_call hc hx (Ct.frame hs h)) hd fun v L' ⟨M, hR, e⟩ => hk v M hR L' e.symm

theorem op_c4 {d f : Nat} {xs : List Operand} {ats : Array TypeId} {ty : TypeId} {pos : String} {aft : Array Edge} {fl : List Nat} {rest : List Oper} {vs : List Value} {Lp F : List As} {R : Value → List As → Prop}
    (hc : callable P f = true) (hx : evs fr xs = some vs) (hd : Nat.blt d n = true) (h : ∀ e, c.le e → Ct P f vs.toArray e Lp R) (hs : Sel L Lp F)
    (hk : ∀ v M, R v M → ∀ G, M ++ F = G → (∀ w, Sat G c w → Sat Ls c w) ∧ Op P c n ops Q Ls fl rest ((d, v) :: fr) G) :
    Op P c n ops Q Ls (4 :: fl) (⟨some d, .call { callee := .value (.func f), args := xs.toArray, argTypes := ats }, ty, pos, aft, none⟩ :: rest) fr L :=
  op_e4 (ef_call hc hx (Ct.frame hs h)) hd fun v L' ⟨M, hR, e⟩ => hk v M hR L' e.symm

/-- A call of a function value, with what it has caught. -/
theorem ef_callv {f : FuncId} {x : Operand} {xs : List Operand} {ats : Array TypeId} {d : Option Tmp} {ty : TypeId} {pos : String} {aft : Array Edge} {g : Option (Nat × Bool)} {vs cap : List Value} {R : Value → List As → Prop}
    (hc : callable P f = true) (hv : ev fr x = some (.func (.func f) #[] cap.toArray)) (hx : evs fr xs = some vs) (h : Ct P f (vs ++ cap).toArray c L R) :
    Ef P c n fr L ⟨d, .call { callee := .value x, args := xs.toArray, argTypes := ats }, ty, pos, aft, g⟩ R := by
  intro X a w hf hs N hN
  have hvs := hf.evals hx
  unfold Oper.wp execOp
  simp only [resolve, hf.eval hv, Deferred.ofValue, Sem.run_bind, Sem.run_pure, Result.andThen_ok, invoke, List.map_toArray, hvs, Array.append_empty, Array.empty_append, List.append_toArray]
  rw [run_callFunc hc]
  refine (h w hs).mono ?_
  rintro e w' ⟨v, L', rfl, hR, hs'⟩
  exact hN v L' w' hR hs'
theorem op_cv {d f : Nat} {x : Operand} {xs : List Operand} {ats : Array TypeId} {ty : TypeId} {pos : String} {aft : Array Edge} {fl : List Nat} {rest : List Oper} {vs cap as : List Value} {Lp F : List As} {R : Value → List As → Prop}
    (hc : callable P f = true) (hv : ev fr x = some (.func (.func f) #[] cap.toArray)) (hx : evs fr xs = some vs) (hd : Nat.blt d n = true) (ha : vs ++ cap = as) (h : ∀ e, c.le e → Ct P f as.toArray e Lp R) (hs : Sel L Lp F)
    (hk : ∀ v M, R v M → ∀ G, M ++ F = G → Op P c n ops Q Ls fl rest ((d, v) :: fr) G) :
    Op P c n ops Q Ls (2 :: fl) (⟨some d, .call { callee := .value x, args := xs.toArray, argTypes := ats }, ty, pos, aft, none⟩ :: rest) fr L :=
  op_e (ef_callv hc hv hx (ha ▸ Ct.frame hs h)) hd fun v L' ⟨M, hR, e⟩ => hk v M hR L' e.symm
/-- A call of an interface's method. -/
theorem ef_inv {f : FuncId} {x : Operand} {nm : String} {xs : List Operand} {ats : Array TypeId} {d : Option Tmp} {ty : TypeId} {pos : String} {aft : Array Edge} {g : Option (Nat × Bool)} {rv : Value} {vs as : List Value} {R : Value → List As → Prop}
    (hi : ∀ w, (invoke (.fn (.method nm) #[]) (rv :: vs).toArray).run P w = .ok (.enter f as.toArray) w) (hv : ev fr x = some rv) (hx : evs fr xs = some vs) (h : Ct P f as.toArray c L R) :
    Ef P c n fr L ⟨d, .call { callee := .invoke x nm, args := xs.toArray, argTypes := ats }, ty, pos, aft, g⟩ R := by
  intro X a w hf hs N hN
  have hvs := hf.evals hx
  unfold Oper.wp execOp
  have e : (#[rv] ++ vs.toArray : Array Value) = (rv :: vs).toArray := by simp
  simp only [resolve, hf.eval hv, Sem.run_bind, Sem.run_pure, Result.andThen_ok, List.map_toArray, hvs, e, hi w]
  refine (h w hs).mono ?_
  rintro e w' ⟨v, L', rfl, hR, hs'⟩
  exact hN v L' w' hR hs'
theorem op_inv {d f : Nat} {x : Operand} {nm : String} {xs : List Operand} {ats : Array TypeId} {ty : TypeId} {pos : String} {aft : Array Edge} {fl : List Nat} {rest : List Oper} {rv : Value} {vs as : List Value} {Lp F : List As} {R : Value → List As → Prop}
    (hv : ev fr x = some rv) (hx : evs fr xs = some vs) (hd : Nat.blt d n = true) (hi : ∀ w, (invoke (.fn (.method nm) #[]) (rv :: vs).toArray).run P w = .ok (.enter f as.toArray) w) (h : ∀ e, c.le e → Ct P f as.toArray e Lp R) (hs : Sel L Lp F)
    (hk : ∀ v M, R v M → ∀ G, M ++ F = G → Op P c n ops Q Ls fl rest ((d, v) :: fr) G) :
    Op P c n ops Q Ls (2 :: fl) (⟨some d, .call { callee := .invoke x nm, args := xs.toArray, argTypes := ats }, ty, pos, aft, none⟩ :: rest) fr L :=
  op_e (ef_inv hi hv hx (Ct.frame hs h)) hd fun v L' ⟨M, hR, e⟩ => hk v M hR L' e.symm

/-! ### A function -/
theorem ct_fn {f : FuncId} {fn : Func} {code : Code} {args : List Value} {R : Value → List As → Prop} {m : Nat} (fr0 : Fr)
    (hf : P.funcs[f]? = some fn) (hb : fn.body = some code) (hm : fn.ntmps = m) (hn : Nat.ble args.length m = true)
    (h0 : Sub fr0 (args.zipIdx.map fun (v, i) => (i, v)))
    (h : Cd P c m code fr0 L (bodyPost P fn fun e w' => ∃ v L', e = .returned v ∧ R v L' ∧ Sat L' c w')) : Ct P f args.toArray c L R := fun w hs => by
  refine calls_of_wp hf hb ?_
  refine h _ w ?_ hs
  have key : ∀ (l : List Value) (k : Nat), ∀ t v, Fr.get ((l.zipIdx k).map fun (v, i) => (i, v)) t = some v → k ≤ t ∧ l[t - k]? = some v := by
    intro l
    induction l with
    | nil => intro k t v h; cases h
    | cons x l ih =>
      intro k t v h
      simp only [List.zipIdx_cons, List.map_cons] at h
      rw [Fr.get_cons] at h
      split at h
      · rename_i e; subst e; simpa using h
      · rename_i e
        obtain ⟨h1, h2⟩ := ih _ _ _ h
        refine ⟨by omega, ?_⟩
        have : t - k = (t - (k + 1)) + 1 := by omega
        rw [this]; simpa using h2
  have hn' : args.length ≤ m := by simpa using hn
  refine ⟨rfl, ?_, fun t v hv => ?_⟩
  · simp [hm]; omega
  · have := (key args 0 t v (h0.get t v hv)).2
    rw [Array.getElem?_append_left]
    · simpa using this
    · have := (List.getElem?_eq_some_iff.1 this).1
      simpa using this
/-- The end: one result in a slot. -/
theorem ent_ret1 {fn : Func} {R : Value → List As → Prop} {t : Tmp} {v : Value} (hr : fn.results = #[.tmp t]) (hv : fr.get t = some v) (h : ∃ L', R v L' ∧ ∀ w, Sat L c w → Sat L' c w) :
    Ent c n (bodyPost P fn fun e w' => ∃ v L', e = .returned v ∧ R v L' ∧ Sat L' c w') .ret fr L := fun a w hf hs => by
  obtain ⟨L', hR, hL⟩ := h
  refine ⟨hf.defers, v, ?_, v, L', rfl, hR, hL w hs⟩
  rw [results_tmp hr]
  simp [hf.slots t v hv]
theorem ent_ret2 {fn : Func} {R : Value → List As → Prop} {t u : Tmp} {v x : Value} (hr : fn.results = #[.tmp t, .tmp u]) (hv : fr.get t = some v) (hx : fr.get u = some x)
    (h : ∃ L', R (.tuple #[v, x]) L' ∧ ∀ w, Sat L c w → Sat L' c w) :
    Ent c n (bodyPost P fn fun e w' => ∃ v L', e = .returned v ∧ R v L' ∧ Sat L' c w') .ret fr L := fun a w hf hs => by
  obtain ⟨L', hR, hL⟩ := h
  refine ⟨hf.defers, _, ?_, _, L', rfl, hR, hL w hs⟩
  rw [results_tmp2 hr]
  simp [hf.slots t v hv, hf.slots u x hx]
theorem ent_end0 {fn : Func} {R : Value → List As → Prop} {e : Exit} (he : e = .normal ∨ e = .ret) (hr : fn.results = #[]) (h : ∃ L', R (.tuple #[]) L' ∧ ∀ w, Sat L c w → Sat L' c w) :
    Ent c n (bodyPost P fn fun e w' => ∃ v L', e = .returned v ∧ R v L' ∧ Sat L' c w') e fr L := fun a w hf hs => by
  obtain ⟨L', hR, hL⟩ := h
  rcases he with rfl | rfl <;> exact ⟨hf.defers, _, results_none hr .., _, L', rfl, hR, hL w hs⟩
theorem op_s1 {d : Nat} {op : Go.Op} {ty : TypeId} {pos : String} {aft : Array Edge} {f : Nat} {fl : List Nat} {rest : List Oper} {j t : Nat} {b : Bool}
    (hj : (ops[j]?).bind (·.dst) = some t) (hv : fr.get t = some (.bool (!b))) (hd : Nat.blt d n = true ∧ Nat.ble f 2 = true) (h : Op P c n ops Q Ls fl rest ((d, undef) :: fr) L) :
    Op P c n ops Q Ls (f :: fl) (⟨some d, op, ty, pos, aft, some (j, b)⟩ :: rest) fr L := op_s hj hv (.inl rfl) hd.1 (.inl hd.2) h
theorem op_s2 {d : Nat} {op : Go.Op} {ty : TypeId} {pos : String} {aft : Array Edge} {f : Nat} {fl : List Nat} {rest : List Oper} {j t : Nat} {b : Bool}
    (hj : (ops[j]?).bind (·.dst) = some t) (hv : fr.get t = some undef) (hd : Nat.blt d n = true ∧ Nat.ble f 2 = true) (h : Op P c n ops Q Ls fl rest ((d, undef) :: fr) L) :
    Op P c n ops Q Ls (f :: fl) (⟨some d, op, ty, pos, aft, some (j, b)⟩ :: rest) fr L := op_s hj hv (.inr rfl) hd.1 (.inl hd.2) h
/-- One assertion is found. -/
theorem rm {L M : List As} {A : As} (h : Rem L A M := by (repeat (first | (with_reducible exact Rem.here) | (with_reducible apply Rem.there)))) : Rem L A M := h
/-- Several are. -/
theorem sx {L M F : List As} (h : Sel L M F := by repeat (first | exact Sel.nil | apply Sel.cons | (with_reducible exact Rem.here) | (with_reducible apply Rem.there))) : Sel L M F := h
theorem zn {α : Type} : (∀ l : List α, [] ++ l = l) ∧ ∀ (a : α) (l m : List α), (a :: l) ++ m = a :: (l ++ m) := ⟨fun _ => rfl, fun _ _ _ => rfl⟩
theorem zz {α : Type} : (∀ (x a : α) (l : List α) (i : Nat), (x :: l).set (i + 1) a = x :: l.set i a) ∧ (∀ (x a : α) (l : List α), (x :: l).set 0 a = a :: l) ∧ (∀ (x : α) (l : List α) (i : Nat), (x :: l).drop (i + 1) = l.drop i) ∧ (∀ l : List α, l.drop 0 = l) ∧
    (∀ (x : α) (l : List α) (i : Nat), (x :: l).take (i + 1) = x :: l.take i) ∧ (∀ l : List α, l.take 0 = []) ∧ (∀ (a : α) (l m : List α), (a :: l) ++ m = a :: (l ++ m)) ∧ (∀ l : List α, [] ++ l = l) ∧ (∀ l : List α, l ++ [] = l) ∧
    (∀ (a : α) (l : List α), (a :: l).length = l.length + 1) ∧ ([] : List α).length = 0 :=
  ⟨fun _ _ _ _ => rfl, fun _ _ _ => rfl, fun _ _ _ => rfl, fun _ => rfl, fun _ _ _ => rfl, fun _ => rfl, fun _ _ _ => rfl, fun _ => rfl, fun l => List.append_nil l, fun _ _ => rfl, rfl⟩
end
end Go.SL
/- One law an operation: what it yields over a symbolic frame; what a store or a new block comes to. Over any program. -/
namespace Go.SL

/-! ### Closed facts on the program's tables -/
def fieldOff (P : Program) (s i : Nat) : Option Nat := match P.underlying s with
  | some (.struct fs) => match fs[i]? with
    | some f => match P.info? f.type with
      | some inf => if inf.size = 0 then none else some f.offset
      | none => none
    | none => none
  | _ => none
/-- Of a field of a struct's value: where it lies, and how many cells, if it is a struct or an array. -/
def fieldPart (P : Program) (s i : Nat) : Option (Nat × Option Nat) := match P.underlying s with
  | some (.struct fs) => match fs[i]? with
    | some f => match P.underlying f.type, P.info? f.type with
      | some (.struct _), some inf => some (f.offset, some inf.size)
      | some (.array ..), some inf => some (f.offset, some inf.size)
      | some _, some _ => some (f.offset, none)
      | _, _ => none
    | none => none
  | _ => none
def scalarT (P : Program) (t : Nat) : Bool := match P.underlying t, P.info? t with
  | some (.struct _), _ => false
  | some (.array ..), _ => false
  | some _, some i => i.size == 1
  | _, _ => false
def aggK (P : Program) (t : Nat) : Option Nat := match P.underlying t, P.info? t with
  | some (.struct _), some i => some i.size
  | some (.array ..), some i => some i.size
  | _, _ => none
def sizeK (P : Program) (t : Nat) : Option Nat := (P.info? t).map (·.size)
def zeroC (P : Program) (t : Nat) : Option (List Value) := match P.info? t with
  | some i => i.zero.map fun v => v.cells.toList
  | none => none
/-- Of a slice's type: its elements' type, cells, bytes. -/
def sliceK (P : Program) (t : Nat) : Option (Nat × Nat × Nat) := match P.underlying t with
  | some (.slice e) => (P.info? e).map fun i => (e, i.size, i.bytes)
  | _ => none
def arrK (P : Program) (t : Nat) : Option (Nat × Nat × Nat) := match P.underlying t with
  | some (.array n e) => (P.info? e).map fun i => (n, e, i.size)
  | _ => none

section
variable {P : Program} {c : Cx} {n : Nat} {fr : Fr} {L : List As}
variable {d : Option Tmp} {ty : TypeId} {pos : String} {aft : Array Edge} {g : Option (Nat × Bool)}

theorem y_move {x : Operand} {v : Value} (hx : ev fr x = some v) : Yf P n fr ⟨d, .move x, ty, pos, aft, g⟩ v := fun a w hf => by simp [execOp, hf.eval hx, Sem.run]
theorem y_assign {x : Operand} {v : Value} (hx : ev fr x = some v) : Yf P n fr ⟨d, .assign x, ty, pos, aft, g⟩ v := fun a w hf => by simp [execOp, hf.eval hx, Sem.run]
theorem y_pickt {t x y : Operand} {v : Value} (ht : ev fr t = some (.bool true)) (hx : ev fr x = some v) : Yf P n fr ⟨d, .pick t x y, ty, pos, aft, g⟩ v := fun a w hf => by
  simp [execOp, hf.eval hx, hf.eval ht, asBool, Sem.run]
theorem y_pickf {t x y : Operand} {v : Value} (ht : ev fr t = some (.bool false)) (hx : ev fr y = some v) : Yf P n fr ⟨d, .pick t x y, ty, pos, aft, g⟩ v := fun a w hf => by
  simp [execOp, hf.eval hx, hf.eval ht, asBool, Sem.run]
theorem y_pick {t x y : Operand} {b : Bool} {v u : Value} (ht : ev fr t = some (.bool b)) (hx : ev fr x = some v) (hy : ev fr y = some u) : Yf P n fr ⟨d, .pick t x y, ty, pos, aft, g⟩ (if b then v else u) := fun a w hf => by
  simp [execOp, hf.eval hx, hf.eval hy, hf.eval ht, asBool, Sem.run]
theorem y_nil {x : Operand} {p : Addr} (hx : ev fr x = some (.pointer (some p))) : Yf P n fr ⟨d, .nilCheck x, ty, pos, aft, g⟩ (.pointer (some p)) := fun a w hf => by
  simp [execOp, hf.eval hx, Sem.run]
theorem y_nili {x : Operand} {t : TypeId} {v : Value} (hx : ev fr x = some (.iface t v)) : Yf P n fr ⟨d, .nilCheck x, ty, pos, aft, g⟩ (.iface t v) := fun a w hf => by
  simp [execOp, hf.eval hx, Sem.run]
theorem y_nilf {x : Operand} {f : FuncId} {l k : Array Value} (hx : ev fr x = some (.func (.func f) l k)) : Yf P n fr ⟨d, .nilCheck x, ty, pos, aft, g⟩ (.func (.func f) l k) := fun a w hf => by
  simp [execOp, hf.eval hx, Sem.run]

theorem add_mk (b i k : Nat) : (⟨b, i, none⟩ : Addr).add k = ⟨b, i + k, none⟩ := by
  unfold Addr.add; split
  · rename_i h; subst h; rfl
  · rfl

theorem run_fieldAt {s i o : Nat} {p : Addr} (hf : fieldOff P s i = some o) (w : World) : (Instr.fieldAt s (.pointer (some p)) i).run P w = .ok (.pointer (some (p.add o))) w := by
  unfold fieldOff at hf
  split at hf <;> try cases hf
  rename_i fs hu
  split at hf <;> try cases hf
  rename_i f hff
  split at hf <;> try cases hf
  rename_i inf hi
  split at hf <;> try cases hf
  rename_i hz
  have hz' : ¬ P.cellsOf f.type = 0 := by simp [Program.cellsOf, hi, hz]
  simp [Instr.fieldAt, run_underlying hu, hff, Instr.sureAddr, fieldPlace, run_sizeOf w hi, hz', Sem.run]
/-- Off a block's cell. -/
theorem y_fld {s i o b k : Nat} {x : Operand} (hf : fieldOff P s i = some o) (hx : ev fr x = some (.pointer (some ⟨b, k, none⟩))) :
    Yf P n fr ⟨d, .fieldAddr s x i, ty, pos, aft, g⟩ (.pointer (some ⟨b, k + o, none⟩)) := fun a w hfit => by
  simp [execOp, hfit.eval hx, run_fieldAt hf, add_mk, Sem.run]
theorem y_fld0 {s i b k : Nat} {x : Operand} (hf : fieldOff P s i = some 0) (hx : ev fr x = some (.pointer (some ⟨b, k, none⟩))) :
    Yf P n fr ⟨d, .fieldAddr s x i, ty, pos, aft, g⟩ (.pointer (some ⟨b, k, none⟩)) := y_fld hf hx
theorem y_flda {s i o : Nat} {p : Addr} {x : Operand} (hf : fieldOff P s i = some o) (hx : ev fr x = some (.pointer (some p))) :
    Yf P n fr ⟨d, .fieldAddr s x i, ty, pos, aft, g⟩ (.pointer (some (p.add o))) := fun a w hfit => by
  simp [execOp, hfit.eval hx, run_fieldAt hf, Sem.run]

/-! ### Arithmetic -/
theorem y_add {k : IntKind} {x y : Operand} {t u : TypeId} {a b r : Int} (hx : ev fr x = some (.int k a)) (hy : ev fr y = some (.int k b)) (hr : k.wrap (a + b) = r) :
    Yf P n fr ⟨d, .binOp .add t x y u, ty, pos, aft, g⟩ (.int k r) := fun A w hf => by
  simp [execOp, hf.eval hx, hf.eval hy, eqGuard, binOp, Op.intArith, hr, Sem.run]
theorem y_sub {k : IntKind} {x y : Operand} {t u : TypeId} {a b r : Int} (hx : ev fr x = some (.int k a)) (hy : ev fr y = some (.int k b)) (hr : k.wrap (a - b) = r) :
    Yf P n fr ⟨d, .binOp .sub t x y u, ty, pos, aft, g⟩ (.int k r) := fun A w hf => by
  simp [execOp, hf.eval hx, hf.eval hy, eqGuard, binOp, Op.intArith, hr, Sem.run]
theorem y_mul {k : IntKind} {x y : Operand} {t u : TypeId} {a b r : Int} (hx : ev fr x = some (.int k a)) (hy : ev fr y = some (.int k b)) (hr : k.wrap (a * b) = r) :
    Yf P n fr ⟨d, .binOp .mul t x y u, ty, pos, aft, g⟩ (.int k r) := fun A w hf => by
  simp [execOp, hf.eval hx, hf.eval hy, eqGuard, binOp, Op.intArith, hr, Sem.run]
theorem y_quo {k : IntKind} {x y : Operand} {t u : TypeId} {a b r : Int} (hx : ev fr x = some (.int k a)) (hy : ev fr y = some (.int k b)) (hb : b ≠ 0) (hr : k.wrap (a.tdiv b) = r) :
    Yf P n fr ⟨d, .binOp .quo t x y u, ty, pos, aft, g⟩ (.int k r) := fun A w hf => by
  simp [execOp, hf.eval hx, hf.eval hy, eqGuard, binOp, Op.intDiv, hr, hb, Sem.run]
theorem y_rem {k : IntKind} {x y : Operand} {t u : TypeId} {a b r : Int} (hx : ev fr x = some (.int k a)) (hy : ev fr y = some (.int k b)) (hb : b ≠ 0) (hr : a.tmod b = r) :
    Yf P n fr ⟨d, .binOp .rem t x y u, ty, pos, aft, g⟩ (.int k r) := fun A w hf => by
  simp [execOp, hf.eval hx, hf.eval hy, eqGuard, binOp, Op.intDiv, hr, hb, Sem.run]
theorem y_lt {k : IntKind} {x y : Operand} {t u : TypeId} {a b : Int} {r : Bool} (hx : ev fr x = some (.int k a)) (hy : ev fr y = some (.int k b)) (hr : decide (a < b) = r) :
    Yf P n fr ⟨d, .binOp .lss t x y u, ty, pos, aft, g⟩ (.bool r) := fun A w hf => by
  simp [execOp, hf.eval hx, hf.eval hy, eqGuard, binOp, Op.intCmp, hr, Sem.run]
theorem y_le {k : IntKind} {x y : Operand} {t u : TypeId} {a b : Int} {r : Bool} (hx : ev fr x = some (.int k a)) (hy : ev fr y = some (.int k b)) (hr : decide (a ≤ b) = r) :
    Yf P n fr ⟨d, .binOp .leq t x y u, ty, pos, aft, g⟩ (.bool r) := fun A w hf => by
  simp [execOp, hf.eval hx, hf.eval hy, eqGuard, binOp, Op.intCmp, hr, Sem.run]
theorem y_gt {k : IntKind} {x y : Operand} {t u : TypeId} {a b : Int} {r : Bool} (hx : ev fr x = some (.int k a)) (hy : ev fr y = some (.int k b)) (hr : decide (b < a) = r) :
    Yf P n fr ⟨d, .binOp .gtr t x y u, ty, pos, aft, g⟩ (.bool r) := fun A w hf => by
  simp [execOp, hf.eval hx, hf.eval hy, eqGuard, binOp, Op.intCmp, hr, Sem.run]
theorem y_ge {k : IntKind} {x y : Operand} {t u : TypeId} {a b : Int} {r : Bool} (hx : ev fr x = some (.int k a)) (hy : ev fr y = some (.int k b)) (hr : decide (b ≤ a) = r) :
    Yf P n fr ⟨d, .binOp .geq t x y u, ty, pos, aft, g⟩ (.bool r) := fun A w hf => by
  simp [execOp, hf.eval hx, hf.eval hy, eqGuard, binOp, Op.intCmp, hr, Sem.run]
theorem y_eq {k : IntKind} {x y : Operand} {t u : TypeId} {a b : Int} {r : Bool} (hx : ev fr x = some (.int k a)) (hy : ev fr y = some (.int k b)) (hr : (a == b) = r) :
    Yf P n fr ⟨d, .binOp .eql t x y u, ty, pos, aft, g⟩ (.bool r) := fun A w hf => by
  simp [execOp, hf.eval hx, hf.eval hy, eqGuard, binOp, Op.intCmp, hr, Sem.run]
theorem y_ne {k : IntKind} {x y : Operand} {t u : TypeId} {a b : Int} {r : Bool} (hx : ev fr x = some (.int k a)) (hy : ev fr y = some (.int k b)) (hr : (a != b) = r) :
    Yf P n fr ⟨d, .binOp .neq t x y u, ty, pos, aft, g⟩ (.bool r) := fun A w hf => by
  simp [execOp, hf.eval hx, hf.eval hy, eqGuard, binOp, Op.intCmp, hr, Sem.run]
theorem y_shl {k j : IntKind} {x y : Operand} {t u : TypeId} {a b r : Int} (hx : ev fr x = some (.int k a)) (hy : ev fr y = some (.int j b)) (hb : 0 ≤ b) (hr : k.wrap (a * 2 ^ min b.toNat k.bits) = r) :
    Yf P n fr ⟨d, .binOp .shl t x y u, ty, pos, aft, g⟩ (.int k r) := fun A w hf => by
  have : ¬ b < 0 := by omega
  simp [execOp, hf.eval hx, hf.eval hy, eqGuard, binOp, Op.shift, hr, this, Sem.run]
theorem y_shr {k j : IntKind} {x y : Operand} {t u : TypeId} {a b r : Int} (hx : ev fr x = some (.int k a)) (hy : ev fr y = some (.int j b)) (hb : 0 ≤ b) (hr : a.fdiv (2 ^ min b.toNat k.bits) = r) :
    Yf P n fr ⟨d, .binOp .shr t x y u, ty, pos, aft, g⟩ (.int k r) := fun A w hf => by
  have : ¬ b < 0 := by omega
  simp [execOp, hf.eval hx, hf.eval hy, eqGuard, binOp, Op.shift, hr, this, Sem.run]
theorem y_and {k : IntKind} {x y : Operand} {t u : TypeId} {a b r : Int} (hx : ev fr x = some (.int k a)) (hy : ev fr y = some (.int k b)) (hr : k.wrap (BitVec.ofInt k.bits a &&& BitVec.ofInt k.bits b).toNat = r) :
    Yf P n fr ⟨d, .binOp .and t x y u, ty, pos, aft, g⟩ (.int k r) := fun A w hf => by
  simp only [execOp, hf.eval hx, hf.eval hy, eqGuard, binOp, Op.intBits]
  rw [← hr]; simp [Sem.run]
theorem y_or {k : IntKind} {x y : Operand} {t u : TypeId} {a b r : Int} (hx : ev fr x = some (.int k a)) (hy : ev fr y = some (.int k b)) (hr : k.wrap (BitVec.ofInt k.bits a ||| BitVec.ofInt k.bits b).toNat = r) :
    Yf P n fr ⟨d, .binOp .or t x y u, ty, pos, aft, g⟩ (.int k r) := fun A w hf => by
  simp only [execOp, hf.eval hx, hf.eval hy, eqGuard, binOp, Op.intBits]
  rw [← hr]; simp [Sem.run]
theorem y_andnot {k : IntKind} {x y : Operand} {t u : TypeId} {a b r : Int} (hx : ev fr x = some (.int k a)) (hy : ev fr y = some (.int k b)) (hr : k.wrap (BitVec.ofInt k.bits a &&& ~~~ (BitVec.ofInt k.bits b)).toNat = r) :
    Yf P n fr ⟨d, .binOp .andNot t x y u, ty, pos, aft, g⟩ (.int k r) := fun A w hf => by
  simp only [execOp, hf.eval hx, hf.eval hy, eqGuard, binOp, Op.intBits]
  rw [← hr]; simp [Sem.run]
theorem y_not {x : Operand} {t : TypeId} {b r : Bool} (hx : ev fr x = some (.bool b)) (hr : (!b) = r) : Yf P n fr ⟨d, .unOp .not t x, ty, pos, aft, g⟩ (.bool r) := fun A w hf => by
  simp [execOp, hf.eval hx, Op.unary, hr, Sem.run]
theorem y_conv {k j : IntKind} {s t : TypeId} {x : Operand} {a r : Int} {D : TypeDesc} (hs : P.underlying s = some D) (ht : P.underlying t = some (.int j)) (hx : ev fr x = some (.int k a)) (hr : j.wrap a = r) :
    Yf P n fr ⟨d, .convert s t x, ty, pos, aft, g⟩ (.int j r) := fun A w hf => by
  simp [execOp, hf.eval hx, convert, run_underlying hs, run_underlying ht, Conv.intToInt, hr, Sem.run]
theorem run_eq_ptr_nil {t E : TypeId} (hp : P.underlying t = some (.pointer E)) (p : Option Addr) (w : World) : (Op.equal t (.pointer p) (.pointer none)).run P w = .ok p.isNone w := by
  have h : ∀ d : Nat, (Op.equalIn (d + 1) t (.pointer p) (.pointer none)).run P w = .ok p.isNone w := fun d => by cases p <;> simp [Op.equalIn, run_underlying hp, Sem.run]
  exact h 9999
theorem run_eq_iface_nil {t T : TypeId} {ms : Array (String × TypeId)} (hp : P.underlying t = some (.interface ms)) (v : Value) (w : World) : (Op.equal t (.iface T v) .nilIface).run P w = .ok false w := by
  have h : ∀ d : Nat, (Op.equalIn (d + 1) t (.iface T v) .nilIface).run P w = .ok false w := fun d => by simp [Op.equalIn, run_underlying hp, Sem.run]
  exact h 9999
/-- A pointer held against nil. -/
theorem y_peq {x : Operand} {t u : TypeId} {p : Option Addr} {E : TypeId} {r : Bool} (hp : P.underlying t = some (.pointer E)) (hx : ev fr x = some (.pointer p)) (hr : p.isNone = r) :
    Yf P n fr ⟨d, .binOp .eql t x (.const (.pointer none)) u, ty, pos, aft, g⟩ (.bool r) := fun A w hf => by
  have hn : A.eval (.const (.pointer none)) = .pointer none := rfl
  simp only [execOp, hf.eval hx, hn, eqGuard, binOp]
  simp [run_eq_ptr_nil hp, hr, Sem.run]
theorem y_pne {x : Operand} {t u : TypeId} {p : Option Addr} {E : TypeId} {r : Bool} (hp : P.underlying t = some (.pointer E)) (hx : ev fr x = some (.pointer p)) (hr : (!p.isNone) = r) :
    Yf P n fr ⟨d, .binOp .neq t x (.const (.pointer none)) u, ty, pos, aft, g⟩ (.bool r) := fun A w hf => by
  have hn : A.eval (.const (.pointer none)) = .pointer none := rfl
  simp only [execOp, hf.eval hx, hn, eqGuard, binOp]
  simp [run_eq_ptr_nil hp, hr, Sem.run]
/-- An interface value held against nil. -/
theorem y_ieq {x : Operand} {t u T : TypeId} {v : Value} {ms : Array (String × TypeId)} (hp : P.underlying t = some (.interface ms)) (hx : ev fr x = some (.iface T v)) :
    Yf P n fr ⟨d, .binOp .eql t x (.const .nilIface) u, ty, pos, aft, g⟩ (.bool false) := fun A w hf => by
  have hn : A.eval (.const .nilIface) = .nilIface := rfl
  simp only [execOp, hf.eval hx, hn, eqGuard, binOp]
  simp [run_eq_iface_nil hp, Sem.run]

/-! ### Values with parts -/
theorem y_ext {x : Operand} {i : Nat} {vs : Array Value} {v : Value} (hx : ev fr x = some (.tuple vs)) (hv : vs[i]? = some v) : Yf P n fr ⟨d, .extract x i, ty, pos, aft, g⟩ v := fun A w hf => by
  simp [execOp, hf.eval hx, Instr.extract, hv, Sem.run]
theorem y_mki {x : Operand} {t : TypeId} {v : Value} (hx : ev fr x = some v) (hi : (match P.underlying t with | some (.interface _) => false | some _ => true | none => false) = true) :
    Yf P n fr ⟨d, .makeInterface t x, ty, pos, aft, g⟩ (.iface t v) := fun A w hf => by
  cases hu : P.underlying t with
  | none => simp [hu] at hi
  | some D => cases D <;> first | (simp [hu] at hi; done) | simp [execOp, hf.eval hx, Instr.makeInterface, run_underlying hu, Sem.run]
theorem y_len {x : Operand} {s e : TypeId} {t : TypeId} {A : Option Addr} {m k : Nat} (hu : P.underlying s = some (.slice e)) (hx : ev fr x = some (.slice A m k)) :
    Yf P n fr ⟨d, .call { callee := .builtin .len, args := #[x], argTypes := #[s] }, t, pos, aft, g⟩ (.int .i64 m) := fun a w hf => by
  simp [execOp, resolve, invoke, builtin, Builtin.len_, run_underlying hu, hf.eval hx, goInt, Sem.run]
theorem y_lens {x : Operand} {u : TypeId} {t : TypeId} {s : ByteArray} (hu : P.underlying u = some .string) (hx : ev fr x = some (.string s)) :
    Yf P n fr ⟨d, .call { callee := .builtin .len, args := #[x], argTypes := #[u] }, t, pos, aft, g⟩ (.int .i64 s.size) := fun a w hf => by
  simp [execOp, resolve, invoke, builtin, Builtin.len_, run_underlying hu, hf.eval hx, goInt, Sem.run]

/-! ### Reading memory -/
def Rd (c : Cx) (L : List As) (a : Addr) (v : Value) : Prop := ∀ w, Sat L c w → w.cell? a = some v
def Rds (c : Cx) (L : List As) (a : Addr) (cs : List Value) : Prop := ∀ w, Sat L c w → ∀ j v, cs[j]? = some v → w.cell? (a.add j) = some v
theorem cell_of_block {w : World} {b i : Nat} {l : List Value} {T : TypeId} {F : Nat × Nat} (h : w.heap[b]? = some (.cells l.toArray T F)) : w.cell? ⟨b, i, none⟩ = l[i]? := by
  simp [World.cell?, h]
theorem rd_pt {b i : Nat} {T : TypeId} {l : List Value} {M : List As} {v : Value} (hr : Rem L (pt b T l) M) (hv : l[i]? = some v) : Rd c L ⟨b, i, none⟩ v := fun w hs => by
  rw [cell_of_block (Sat.block (Sat.rem hr hs))]; exact hv
theorem rds_pt {b i : Nat} {T : TypeId} {l : List Value} {M : List As} {cs : List Value} (hr : Rem L (pt b T l) M) (hv : (l.drop i).take cs.length = cs) : Rds c L ⟨b, i, none⟩ cs := fun w hs j v hj => by
  rw [add_mk, cell_of_block (Sat.block (Sat.rem hr hs))]
  rw [← hv] at hj
  rw [List.getElem?_take] at hj
  split at hj
  · rw [List.getElem?_drop] at hj; exact hj
  · cases hj
theorem rd_cx {a : Addr} {v : Value} (h : ∃ C T F, c.hp a.block = some (.cells C T F) ∧ a.spot = none ∧ C[a.off]? = some v) : Rd c L a v := fun w hs => by
  obtain ⟨C, T, F, hc, hsp, hv⟩ := h
  simp [World.cell?, hs.keeps hc, hsp, hv]

theorem y_ld {t : TypeId} {x : Operand} {p : Addr} {v : Value} (ht : scalarT P t = true) (hx : ev fr x = some (.pointer (some p))) (hr : Rd c L p v) : Yl P c n fr L ⟨d, .load t x, ty, pos, aft, g⟩ v := fun a w hf hs => by
  have hc := hr w hs
  unfold scalarT at ht
  split at ht
  · cases ht
  · cases ht
  · rename_i D _ h1 h2 hu hi
    have hagg : (isAgg t).run P w = .ok false w := by
      simp only [isAgg, Sem.run_bind, run_underlying hu, Result.andThen_ok]
      cases D <;> first | rfl | exact absurd hu (h1 _) | exact absurd hu (h2 _ _)
    simp [execOp, Instr.loadAt, Instr.sureAddr, hf.eval hx, loadVar, hagg, load, Sem.run, hc]
  · cases ht
theorem y_lda {t : TypeId} {x : Operand} {p : Addr} {cs : List Value} (ht : aggK P t = some cs.length) (hx : ev fr x = some (.pointer (some p))) (hr : Rds c L p cs) : Yl P c n fr L ⟨d, .load t x, ty, pos, aft, g⟩ (.agg cs.toArray) := fun a w hf hs => by
  have hl := run_loadCells_list (P := P) w p cs (hr w hs)
  have hh : ∃ i, P.info? t = some i ∧ (isAgg t).run P w = .ok true w ∧ i.size = cs.length := by
    unfold aggK at ht
    split at ht
    · rename_i hu hi
      exact ⟨_, hi, by simp [isAgg, run_underlying hu, Sem.run], by simpa using ht⟩
    · rename_i hu hi
      exact ⟨_, hi, by simp [isAgg, run_underlying hu, Sem.run], by simpa using ht⟩
    · cases ht
  obtain ⟨i, hi, hagg, hsz⟩ := hh
  simp [execOp, Instr.loadAt, Instr.sureAddr, hf.eval hx, loadVar, hagg, run_sizeOf w hi, Program.cellsOf, hi, hsz, hl, Sem.run]

/-! ### An element's place -/
theorem y_ix {t e sz bs m k : Nat} {x y : Operand} {b o : Nat} {kd : IntKind} {i : Int} {j : Nat} (hk : sliceK P t = some (e, sz, bs)) (hx : ev fr x = some (.slice (some ⟨b, o, none⟩) m k)) (hy : ev fr y = some (.int kd i))
    (hj : i = (j : Int)) (hlt : j < m) : Yf P n fr ⟨d, .indexAddr t x y, ty, pos, aft, g⟩ (.pointer (some ⟨b, o + j * sz, none⟩)) := fun a w hf => by
  subst hj
  unfold sliceK at hk
  split at hk
  · rename_i e' hu
    cases hi : P.info? e' with
    | none => simp [hi] at hk
    | some inf =>
      simp [hi] at hk
      obtain ⟨rfl, rfl, rfl⟩ := hk
      have h2 : (j : Int) < (m : Int) := by omega
      simp [execOp, hf.eval hx, hf.eval hy, Instr.indexAt, asIntOf, run_underlying hu, run_sizeOf w hi, Program.cellsOf, hi, add_mk, hlt, Sem.run]
  · cases hk
theorem y_ix0 {t e sz bs m k : Nat} {x y : Operand} {b : Nat} {kd : IntKind} {i : Int} {j : Nat} (hk : sliceK P t = some (e, sz, bs)) (hx : ev fr x = some (.slice (some ⟨b, 0, none⟩) m k)) (hy : ev fr y = some (.int kd i))
    (hj : i = (j : Int)) (hlt : j < m) : Yf P n fr ⟨d, .indexAddr t x y, ty, pos, aft, g⟩ (.pointer (some ⟨b, j * sz, none⟩)) := by
  have := y_ix (P := P) (n := n) (d := d) (ty := ty) (pos := pos) (aft := aft) (g := g) hk hx hy hj hlt
  rwa [Nat.zero_add] at this
theorem y_quon {k : IntKind} {x y : Operand} {t u : TypeId} {a b : Int} (hx : ev fr x = some (.int k a)) (hy : ev fr y = some (.int k b)) (ha : 0 ≤ a) (hb : 0 < b) (hr : k.wrap (a / b) = a / b) :
    Yf P n fr ⟨d, .binOp .quo t x y u, ty, pos, aft, g⟩ (.int k (a / b)) := y_quo hx hy (by omega) (by rw [Int.tdiv_eq_ediv_of_nonneg ha, hr])
theorem y_remn {k : IntKind} {x y : Operand} {t u : TypeId} {a b : Int} (hx : ev fr x = some (.int k a)) (hy : ev fr y = some (.int k b)) (ha : 0 ≤ a) (hb : 0 < b) :
    Yf P n fr ⟨d, .binOp .rem t x y u, ty, pos, aft, g⟩ (.int k (a % b)) := y_rem hx hy (by omega) (Int.tmod_eq_emod_of_nonneg ha)
theorem y_ixa {t e sz bs m k : Nat} {x y : Operand} {p : Addr} {kd : IntKind} {i : Int} {j : Nat} (hk : sliceK P t = some (e, sz, bs)) (hx : ev fr x = some (.slice (some p) m k)) (hy : ev fr y = some (.int kd i))
    (hj : i = (j : Int)) (hlt : j < m) : Yf P n fr ⟨d, .indexAddr t x y, ty, pos, aft, g⟩ (.pointer (some (p.add (j * sz)))) := fun a w hf => by
  subst hj
  unfold sliceK at hk
  split at hk
  · rename_i e' hu
    cases hi : P.info? e' with
    | none => simp [hi] at hk
    | some inf =>
      simp [hi] at hk
      obtain ⟨rfl, rfl, rfl⟩ := hk
      simp [execOp, hf.eval hx, hf.eval hy, Instr.indexAt, asIntOf, run_underlying hu, run_sizeOf w hi, Program.cellsOf, hi, hlt, Sem.run]
  · cases hk
/-- s[:h] -/
theorem y_slh {t e sz bs m k : Nat} {x y : Operand} {A : Option Addr} {kd : IntKind} {i : Int} {j : Nat} (hk : sliceK P t = some (e, sz, bs)) (hx : ev fr x = some (.slice A m k)) (hy : ev fr y = some (.int kd i))
    (hj : i = (j : Int)) (hle : j ≤ k) : Yf P n fr ⟨d, .slice t x none (some y) none, ty, pos, aft, g⟩ (.slice A j k) := fun a w hf => by
  subst hj
  unfold sliceK at hk
  split at hk
  · rename_i e' hu
    cases hi : P.info? e' with
    | none => simp [hi] at hk
    | some inf =>
      have h0 : A.map (fun a => a.add 0) = A := by cases A <;> simp [Addr.add]
      simp [execOp, hf.eval hx, hf.eval hy, Instr.sliceAt, Instr.slice, Instr.sliceBounds, Instr.sliceBound, asIntOf, run_underlying hu, run_sizeOf w hi, Program.cellsOf, hi, hle, h0, Sem.run]
  · cases hk
/-- Of an array's variable. -/
theorem y_ixv {t e sz m : Nat} {x y : Operand} {b o : Nat} {kd : IntKind} {i : Int} {j : Nat} (hk : arrK P t = some (m, e, sz)) (hx : ev fr x = some (.pointer (some ⟨b, o, none⟩))) (hy : ev fr y = some (.int kd i))
    (hj : i = (j : Int)) (hlt : j < m) : Yf P n fr ⟨d, .indexAddr t x y, ty, pos, aft, g⟩ (.pointer (some ⟨b, o + j * sz, none⟩)) := fun a w hf => by
  subst hj
  unfold arrK at hk
  split at hk
  · rename_i n' e' hu
    cases hi : P.info? e' with
    | none => simp [hi] at hk
    | some inf =>
      simp [hi] at hk
      obtain ⟨rfl, rfl, rfl⟩ := hk
      simp [execOp, hf.eval hx, hf.eval hy, Instr.indexAt, Instr.sureAddr, asIntOf, run_underlying hu, run_sizeOf w hi, Program.cellsOf, hi, add_mk, hlt, Sem.run]
  · cases hk
end
end Go.SL
/- What a store, a new block, an append come to, over a symbolic heap. Over any program. -/
namespace Go.SL
def splice (l : List Value) (i : Nat) (cs : List Value) : List Value := l.take i ++ cs ++ l.drop (i + cs.length)
def ones (cs : List Value) : Bool := cs.all (·.oneCell')
section
variable {P : Program} {c : Cx} {n : Nat} {fr : Fr} {L : List As}
variable {d : Option Tmp} {ty : TypeId} {pos : String} {aft : Array Edge} {g : Option (Nat × Bool)}

theorem splice_length {l : List Value} {i : Nat} {cs : List Value} (h : i + cs.length ≤ l.length) : (splice l i cs).length = l.length := by
  simp [splice]; omega

theorem Sat.storeRow {b i : Nat} {T : TypeId} {l cs : List Value} {M : List As} {w : World} (hr : Rem L (pt b T l) M) (hlen : i + cs.length ≤ l.length) (h1 : ones cs = true) (hs : Sat L c w) :
    ∃ w', (storeCells ⟨b, i, none⟩ cs).run P w = .ok () w' ∧ Sat (pt b T (splice l i cs) :: M) c w' := by
  have hs' := Sat.rem hr hs
  have hb : w.heap[b]? = some (.cells l.toArray T (0, 0)) := Sat.block hs'
  refine ⟨_, run_storeCells_at (P := P) b i T cs 0 l.toArray w hb (by simpa using hlen) (fun v hv => List.all_eq_true.1 h1 v hv), ?_⟩
  have hlt : b < w.heap.size := by
    rcases Nat.lt_or_ge b w.heap.size with h | h
    · exact h
    · simp [Array.getElem?_eq_none h] at hb
  refine Sat.set hs' (o' := .cells (splice l i cs).toArray T (0, 0)) ?_ ?_ rfl rfl rfl
  · rw [setRow_heap w b l.toArray _ T _ hb]
    simp [splice]
  · intro k hk
    simp only [World.setRow, Array.getElem?_modify]
    rw [if_neg (by omega)]

/-- A store. -/
theorem ef_st {t : TypeId} {x y : Operand} {b i : Nat} {T : TypeId} {l cs : List Value} {M : List As} {v : Value} (hx : ev fr x = some (.pointer (some ⟨b, i, none⟩))) (hy : ev fr y = some v)
    (hv : v.cells.toList = cs) (ht : sizeK P t = some cs.length) (hr : Rem L (pt b T l) M) (hlen : i + cs.length ≤ l.length) (h1 : ones cs = true) :
    Ef P c n fr L ⟨none, .store t x y, ty, pos, aft, g⟩ fun _ L' => L' = pt b T (splice l i cs) :: M := fun X a w hf hs N hN => by
  obtain ⟨w', hw, hs'⟩ := Sat.storeRow (P := P) hr hlen h1 hs
  have hi : ∃ inf, P.info? t = some inf ∧ inf.size = cs.length := by simpa [sizeK] using ht
  obtain ⟨inf, hi, hsz⟩ := hi
  have hcs : v.cells.size = cs.length := by rw [← hv]; simp
  unfold Oper.wp
  have : (execOp a.eval ⟨none, .store t x y, ty, pos, aft, g⟩).run P w = .ok .skip w' := by
    simp [execOp, Instr.storeAt, Instr.sureAddr, hf.eval hx, hf.eval hy, storeVar, run_sizeOf w hi, Program.cellsOf, hi, hsz, hcs, hv, hw, Sem.run]
  rw [this]
  exact hN undef _ w' rfl hs'

theorem Sat.newPt {w : World} (hs : Sat L c w) (T : TypeId) (l : List Value) : Sat (pt w.heap.size T l :: L) c { w with heap := w.heap.push (.cells l.toArray T) } := Sat.new hs _

/-- A new variable. -/
theorem ef_alloc {t : TypeId} {z : List Value} (hz : zeroC P t = some z) :
    Ef P c n fr L ⟨d, .alloc t, ty, pos, aft, g⟩ fun v L' => ∃ b, v = .pointer (some ⟨b, 0, none⟩) ∧ L' = pt b t z :: L := fun X a w hf hs N hN => by
  have hi : ∃ inf u, P.info? t = some inf ∧ inf.zero = some u ∧ u.cells.toList = z := by
    unfold zeroC at hz
    split at hz
    · rename_i i hi
      cases hzz : i.zero with
      | none => simp [hzz] at hz
      | some u => simp [hzz] at hz; exact ⟨i, u, hi, hzz, hz⟩
    · cases hz
  obtain ⟨inf, u, hi, hzz, hu⟩ := hi
  have hcells : u.cells = z.toArray := by rw [← hu]
  have : (execOp a.eval ⟨d, .alloc t, ty, pos, aft, g⟩).run P w = .ok (.value (.pointer (some ⟨w.heap.size, 0, none⟩))) { w with heap := w.heap.push (.cells z.toArray t) } := by
    simp [execOp, Instr.alloc, zeroValue, run_typeInfo w hi, hzz, newVar, newRow, newObj, hcells, Sem.run]
  unfold Oper.wp
  rw [this]
  exact hN _ _ _ ⟨_, rfl, rfl⟩ (Sat.newPt hs t z)
theorem ef_box {t : TypeId} {x : Operand} {v : Value} {z : List Value} (hx : ev fr x = some v) (hz : v.cells.toList = z) :
    Ef P c n fr L ⟨d, .box t x, ty, pos, aft, g⟩ fun v L' => ∃ b, v = .pointer (some ⟨b, 0, none⟩) ∧ L' = pt b t z :: L := fun X a w hf hs N hN => by
  have hcells : v.cells = z.toArray := by rw [← hz]
  have : (execOp a.eval ⟨d, .box t x, ty, pos, aft, g⟩).run P w = .ok (.value (.pointer (some ⟨w.heap.size, 0, none⟩))) { w with heap := w.heap.push (.cells z.toArray t) } := by
    simp [execOp, Instr.box, newVar, newRow, newObj, hcells, hf.eval hx, Sem.run]
  unfold Oper.wp
  rw [this]
  exact hN _ _ _ ⟨_, rfl, rfl⟩ (Sat.newPt hs t z)
end
end Go.SL
/- Regions whose order is left open: where each operation that only yields a value is ordered against each one that turns the world, the order of the text stands for all. Over any program. -/
namespace Go.SL
def edgesOn (o : Oper) : List Nat := (o.after.toList.filter (Region.binds .any)).map (·.on)
def orAll (m : Nat → Nat) (j : Nat) : List Nat → Nat
  | [] => 0
  | y :: ys => (if y < j then 2 ^ y ||| m y else 0) ||| orAll m j ys
theorem orAll_testBit {m : Nat → Nat} {j k : Nat} {ys : List Nat} (h : (orAll m j ys).testBit k = true) : ∃ y ∈ ys, y < j ∧ (y = k ∨ (m y).testBit k = true) := by
  induction ys with
  | nil => simp [orAll] at h
  | cons y ys ih =>
    simp only [orAll, Nat.testBit_or, Bool.or_eq_true] at h
    rcases h with h | h
    · split at h
      · rename_i hy
        simp only [Nat.testBit_or, Bool.or_eq_true, Nat.testBit_two_pow, decide_eq_true_eq] at h
        exact ⟨y, by simp, hy, h⟩
      · simp at h
    · obtain ⟨z, hz, r⟩ := ih h
      exact ⟨z, by simp [hz], r⟩
def masks (ops : Array Oper) : Array Nat := Region.before ops
def okMasks (ops : Array Oper) (ms : Array Nat) : Bool := (List.range ops.size).all fun j => match ops[j]? with
  | some o => ms.getD j 0 ||| orAll (fun y => ms.getD y 0) j (edgesOn o) == orAll (fun y => ms.getD y 0) j (edgesOn o)
  | none => true
def pk (l : List Oper) : List Nat → List Oper
  | [] => []
  | i :: s => l.getD i default :: pk l s
/-- s: the places in the order of the walk; fs: their flags. Each place once; each behind all that it waits for; of each two, the later one waits for the earlier one, or both only yield and are apart, or the earlier one yields whatever the world is, and is apart. -/
def okFrom (ops : Array Oper) (ms : Array Nat) : List Nat → List Nat → List Nat → Bool
  | _, [], _ => true
  | seen, k :: s, fs => (match ops[k]? with
    | some ok => ((edgesOn ok).all fun y => seen.contains y && Nat.blt y ops.size) && !seen.contains k && (s.zip fs.tail).all fun (j, f) => !(j == k) && ((ms.getD j 0).testBit k || (match ops[j]? with | some oj => ok.apart ops oj && (fs.headD 2 == 0 || (fs.headD 2 == 1 && (f == 0 || f == 1 || f == 3)) || (fs.headD 2 == 3 && (f == 0 || f == 1 || f == 3 || f == 4))) | none => false))
    | none => false) && okFrom ops ms (k :: seen) s fs.tail
def okDraw (ops : Array Oper) (s fs : List Nat) : Bool := Region.noSelect ops && okMasks ops (masks ops) && s.length == ops.size && fs.length == ops.size && (List.range ops.size).all s.contains && okFrom ops (masks ops) [] s fs

section
variable {P : Program} {ops : Array Oper} {Q : Exit → Act → World → Prop}

def Down (ops : Array Oper) (listed : Array Bool) : Prop := ∀ (j : Nat) (o : Oper), ops[j]? = some o → listed.getD j false = true → ∀ y ∈ edgesOn o, listed.getD y false = true

theorem mem_edges {o : Oper} {y : Nat} : y ∈ edgesOn o ↔ ∃ e ∈ o.after, Region.binds .any e = true ∧ e.on = y := by
  simp only [edgesOn, List.mem_map, List.mem_filter, Array.mem_toList_iff]
  constructor
  · rintro ⟨e, ⟨h1, h2⟩, h3⟩; exact ⟨e, h1, h2, h3⟩
  · rintro ⟨e, h1, h2, h3⟩; exact ⟨e, ⟨h1, h2⟩, h3⟩

theorem ready_edges {listed : Array Bool} {j : Nat} {o : Oper} (ho : ops[j]? = some o) (hr : j ∈ Region.ready .any ops listed) : ∀ y ∈ edgesOn o, listed.getD y false = true := by
  obtain ⟨_, o', ho', hall⟩ := mem_ready.1 hr
  rw [ho] at ho'; injection ho' with ho'; subst ho'
  intro y hy
  obtain ⟨e, he, hb, rfl⟩ := mem_edges.1 hy
  exact hall e he hb

theorem waits_spec {ms : Array Nat} (hv : okMasks ops ms = true) {listed : Array Bool} (hd : Down ops listed) {k : Nat} (hk : listed.getD k false = false) :
    ∀ j, (ms.getD j 0).testBit k = true → ∀ o, ops[j]? = some o → listed.getD j false = false ∧ j ∉ Region.ready .any ops listed := by
  intro j
  induction j using Nat.strongRecOn with
  | _ j ih =>
    intro hj o ho
    have hjlt : j < ops.size := (Array.getElem?_eq_some_iff.1 ho).1
    have hv' := List.all_eq_true.1 hv j (List.mem_range.2 hjlt)
    simp only [ho, beq_iff_eq] at hv'
    have ht : (orAll (fun y => ms.getD y 0) j (edgesOn o)).testBit k = true := by rw [← hv', Nat.testBit_or, hj]; rfl
    obtain ⟨y, hy, hlt, hyk⟩ := orAll_testBit ht
    have hun : listed.getD y false = false := by
      rcases hyk with e | e
      · subst e; exact hk
      · have hy2 : y < ops.size := by omega
        exact (ih y hlt e _ (Array.getElem?_eq_getElem hy2)).1
    refine ⟨?_, fun hr => ?_⟩
    · cases hl : listed.getD j false with
      | false => rfl
      | true => have := hd j o ho hl y hy; rw [hun] at this; cases this
    · have := ready_edges ho hr y hy; rw [hun] at this; cases this

theorem Down.step {listed : Array Bool} (hd : Down ops listed) {i : Nat} (hr : i ∈ Region.ready .any ops listed) : Down ops (listed.setIfInBounds i true) := by
  intro j o ho hj y hy
  by_cases e : i = j
  · subst e
    exact getD_set_true (ready_edges ho hr y hy)
  · rw [getD_set_ne false e] at hj
    exact getD_set_true (hd j o ho hj y hy)

/-- fl: the flags by place. -/
def stepT (P : Program) (ops : Array Oper) (S : World → Prop) (fl : Nat → Nat) (i : Nat) (K : Act → World → Prop) (a : Act) (w : World) : Prop :=
  match ops[i]? with
  | none => K a w
  | some o => if Region.wanted o (yielded ops a.tmps) then (match fl i with
      | 0 => ∃ v, (∀ w', (execOp a.eval o).run P w' = .ok (.value v) w') ∧ K (a.put o.dst v) w
      | 1 => ∃ v, (execOp a.eval o).run P w = .ok (.value v) w ∧ K (a.put o.dst v) w
      | 3 => S w ∧ ∃ v, (∀ w', S w' → (execOp a.eval o).run P w' = .ok (.value v) w') ∧ K (a.put o.dst v) w
      | 4 => o.wp P a w (fun a' w' => S w' ∧ K a' w') NoX
      | _ => o.wp P a w K NoX) else (fl i = 3 → S w) ∧ (fl i = 4 → S w) ∧ K (a.put o.dst undef) w
def wpAnyT (P : Program) (ops : Array Oper) (Q : Exit → Act → World → Prop) (S : World → Prop) (fl : Nat → Nat) : Nat → Array Bool → Act → World → Prop
  | 0, listed, a, w => Region.ready .any ops listed = [] ∧ Q .normal a w
  | fuel + 1, listed, a, w => (Region.ready .any ops listed = [] → Q .normal a w) ∧
    ∀ i ∈ Region.ready .any ops listed, stepT P ops S fl i (wpAnyT P ops Q S fl fuel (listed.setIfInBounds i true)) a w

theorem wpAnyT.any {S : World → Prop} {fl : Nat → Nat} : ∀ {fuel : Nat} {listed : Array Bool} {a : Act} {w : World}, wpAnyT P ops Q S fl fuel listed a w → wpAny P .any ops Q fuel listed a w
  | 0, _, _, _, h => h
  | fuel + 1, listed, a, w, h => ⟨h.1, fun i hi => by
    have := h.2 i hi
    unfold stepT at this
    unfold wpOp
    cases ho : ops[i]? with
    | none => simp only [ho] at this ⊢; exact this.any
    | some o =>
      simp only [ho] at this ⊢
      split
      · rename_i hw
        rw [if_pos hw] at this
        refine .inl ?_
        split at this
        · obtain ⟨v, hr, h⟩ := this
          unfold Oper.wp; rw [hr w]; exact h.any
        · obtain ⟨v, hr, h⟩ := this
          unfold Oper.wp; rw [hr]; exact h.any
        · obtain ⟨hS, v, hr, h⟩ := this
          unfold Oper.wp; rw [hr w hS]; exact h.any
        · exact Oper.wp_mono (fun a w h => h.2.any) (Oper.wp_noX this)
        · exact Oper.wp_mono (fun a w h => h.any) (Oper.wp_noX this)
      · rename_i hw
        rw [if_neg hw] at this
        exact this.2.2.any⟩

/-- In which worlds a flag's value stands. -/
def SS (S : World → Prop) (f : Nat) (w : World) : World → Prop := if f = 0 then fun _ => True else if f = 3 then S else fun w' => w' = w
def YS (P : Program) (ops : Array Oper) (T : World → Prop) (o : Oper) (v : Value) (a : Act) : Prop :=
  (Region.wanted o (yielded ops a.tmps) = true ∧ ∀ w', T w' → (execOp a.eval o).run P w' = .ok (.value v) w') ∨ (Region.wanted o (yielded ops a.tmps) = false ∧ v = undef)

/-- An effect that is apart from one that yields in each world of T. -/
theorem wp_put {T : World → Prop} {oi oj : Oper} {v : Value} (hap : oi.apart ops oj = true) (hsi : ∀ cs b, oi.op ≠ .select cs b) (hsj : ∀ cs b, oj.op ≠ .select cs b) {K : Act → World → Prop} {a : Act} {w : World}
    (hy : YS P ops T oi v a) (h : oj.wp P (a.put oi.dst v) w K NoX) : oj.wp P a w (fun a' w' => YS P ops T oi v a' ∧ K (a'.put oi.dst v) w') NoX := by
  obtain ⟨h1, h2, h3⟩ := Oper.apart_spec hap
  have keep : ∀ (a : Act), YS P ops T oi v a → ∀ u, YS P ops T oi v (a.put oj.dst u) := fun a hy u => by
    unfold YS at *
    rw [wanted_put oi a oj.dst u h3, execOp_put oi hsi a oj.dst u h3]
    exact hy
  have keepD : ∀ d, YS P ops T oi v { a with defers := d :: a.defers } := fun d => hy
  unfold Oper.wp at *
  rw [execOp_put oj hsj a oi.dst v h1] at h
  generalize (execOp a.eval oj).run P w = r at *
  cases r with
  | ok n w' =>
    cases n <;> simp only [Oper.upon] at h ⊢
    case value u => exact ⟨keep a hy u, by rw [← Act.put_comm a v u h2]; exact h⟩
    case skip => exact ⟨keep a hy _, by rw [← Act.put_comm a v undef h2]; exact h⟩
    case defer d =>
      refine ⟨keep _ (keepD d) _, ?_⟩
      rw [← Act.put_comm _ v undef h2, ← Act.put_defers]
      exact h
    case enter f args =>
      refine Calls.mono h fun e w'' he => ?_
      cases e with
      | returned u => exact ⟨keep a hy u, by rw [← Act.put_comm a v u h2]; exact he⟩
      | panicked c => exact he
      | outgrown => exact he
    case row row args => exact Rows.mono h fun u w'' he => ⟨keep a hy u, by rw [← Act.put_comm a v u h2]; exact he⟩
  | halt x w' =>
    cases x <;> simp only [Oper.upon] at h ⊢
    case panic u => exact h

/-- Which place may come ahead of one of flag fk. -/
def Mayb (fk fj : Nat) : Prop := fk = 0 ∨ fj = 0 ∨ fj = 1 ∨ fj = 3 ∨ (fk = 3 ∧ fj = 4)

theorem firstT {S : World → Prop} {fl : Nat → Nat} {ms : Array Nat} (hv : okMasks ops ms = true) (hsel : Region.noSelect ops = true) {k : Nat} {ok : Oper} {v : Value} (hk : ops[k]? = some ok) (hfk : fl k = 0 ∨ fl k = 1 ∨ fl k = 3) :
    ∀ (fuel : Nat) (listed : Array Bool) (a : Act) (w : World), Down ops listed → k ∈ Region.ready .any ops listed →
      (∀ j oj, ops[j]? = some oj → j ≠ k → listed.getD j true = false → (ms.getD j 0).testBit k = true ∨ (ok.apart ops oj = true ∧ Mayb (fl k) (fl j))) →
      YS P ops (SS S (fl k) w) ok v a → (fl k = 3 → S w) → wpAnyT P ops Q S fl fuel (listed.setIfInBounds k true) (a.put ok.dst v) w → wpAnyT P ops Q S fl (fuel + 1) listed a w := by
  have own : ∀ (K : Act → World → Prop) (a : Act) (w : World), YS P ops (SS S (fl k) w) ok v a → (fl k = 3 → S w) → K (a.put ok.dst v) w → stepT P ops S fl k K a w := by
    intro K a w hy hS H
    unfold stepT
    simp only [hk]
    rcases hy with ⟨hw, hrun⟩ | ⟨hw, rfl⟩
    · rw [if_pos hw]
      rcases hfk with e | e | e
      · rw [e] at hrun ⊢; exact ⟨v, fun w' => hrun w' (by simp [SS]), H⟩
      · rw [e] at hrun ⊢; exact ⟨v, hrun w (by simp [SS]), H⟩
      · have := hS e
        rw [e] at hrun ⊢; exact ⟨this, v, fun w' h' => hrun w' (by simpa [SS] using h'), H⟩
    · rw [if_neg (by simp [hw])]; exact ⟨hS, (fun e => by rcases hfk with x | x | x <;> omega), H⟩
  intro fuel
  induction fuel with
  | zero =>
    intro listed a w hd hr hc hy hS H
    refine ⟨fun h => (by rw [h] at hr; cases hr), fun j hj => ?_⟩
    by_cases hjk : j = k
    · subst hjk; exact own _ a w hy hS H
    · have := ready_mono hj hjk
      rw [H.1] at this; cases this
  | succ m ih =>
    intro listed a w hd hr hc hy hS H
    refine ⟨fun h => (by rw [h] at hr; cases hr), fun j hj => ?_⟩
    by_cases hjk : j = k
    · subst hjk; exact own _ a w hy hS H
    · have h1 := H.2 j (ready_mono hj hjk)
      obtain ⟨hjun, oj, hoj, _⟩ := mem_ready.1 hj
      have hkun : listed.getD k false = false := by
        have h0 := (mem_ready.1 hr).1
        cases hb : listed[k]? with
        | none => simp [hb]
        | some b => simp [hb] at h0 ⊢; exact h0
      rcases hc j oj hoj hjk hjun with hw | ⟨hap, hfj⟩
      · exact absurd hj (waits_spec hv hd hkun j hw oj hoj).2
      obtain ⟨a1, a2, a3⟩ := Oper.apart_spec hap
      have hsk : ∀ cs b, ok.op ≠ .select cs b := fun cs b => Region.noSelect_spec hsel k ok cs b hk
      have hsj : ∀ cs b, oj.op ≠ .select cs b := fun cs b => Region.noSelect_spec hsel j oj cs b hoj
      have next : ∀ u, YS P ops (SS S (fl k) w) ok v (a.put oj.dst u) := fun u => by
        unfold YS at *
        rw [wanted_put ok a oj.dst u a3, execOp_put ok hsk a oj.dst u a3]
        exact hy
      have hc' : ∀ i oi, ops[i]? = some oi → i ≠ k → (listed.setIfInBounds j true).getD i true = false → (ms.getD i 0).testBit k = true ∨ (ok.apart ops oi = true ∧ Mayb (fl k) (fl i)) := by
        intro i oi hi hik hun
        refine hc i oi hi hik ?_
        by_cases e : j = i
        · subst e; exact hjun
        · rw [getD_set_ne true e] at hun; exact hun
      have go : ∀ u, wpAnyT P ops Q S fl m ((listed.setIfInBounds k true).setIfInBounds j true) ((a.put ok.dst v).put oj.dst u) w → wpAnyT P ops Q S fl (m + 1) (listed.setIfInBounds j true) (a.put oj.dst u) w := fun u hu => by
        refine ih _ _ _ (hd.step hj) (ready_mono hr (Ne.symm hjk)) hc' (next u) hS ?_
        rw [Array.setIfInBounds_comm _ _ hjk, ← Act.put_comm a v u a2]
        exact hu
      have step : ∀ a' w', (fl k = 0 ∨ (fl k = 3 ∧ S w')) → YS P ops (SS S (fl k) w) ok v a' → wpAnyT P ops Q S fl m ((listed.setIfInBounds k true).setIfInBounds j true) (a'.put ok.dst v) w' → wpAnyT P ops Q S fl (m + 1) (listed.setIfInBounds j true) a' w' := by
        intro a' w' hf h3 h4
        refine ih _ a' w' (hd.step hj) (ready_mono hr (Ne.symm hjk)) hc' ?_ ?_ ?_
        · rcases hf with e | ⟨e, _⟩
          · rw [e] at h3 ⊢; simpa [SS] using h3
          · rw [e] at h3 ⊢; simpa [SS] using h3
        · intro e3
          rcases hf with e | ⟨e, h⟩
          · omega
          · exact h
        · rw [Array.setIfInBounds_comm _ _ hjk]; exact h4
      unfold stepT at h1 ⊢
      simp only [hoj] at h1 ⊢
      rw [wanted_put oj a ok.dst v a1] at h1
      split at h1
      · rename_i hw
        rw [if_pos hw]
        split at h1
        · obtain ⟨u, hu, h2⟩ := h1
          rw [execOp_put oj hsj a ok.dst v a1] at hu
          exact ⟨u, hu, go u h2⟩
        · obtain ⟨u, hu, h2⟩ := h1
          rw [execOp_put oj hsj a ok.dst v a1] at hu
          exact ⟨u, hu, go u h2⟩
        · obtain ⟨hSw, u, hu, h2⟩ := h1
          rw [execOp_put oj hsj a ok.dst v a1] at hu
          exact ⟨hSw, u, hu, go u h2⟩
        · rename_i e4
          refine Oper.wp_mono (fun a' w' h3 => ?_) (wp_put hap hsk hsj hy h1)
          obtain ⟨h3, h4, h5⟩ := h3
          refine ⟨h4, step a' w' ?_ h3 h5⟩
          unfold Mayb at hfj
          rcases hfj with e | e | e | e | ⟨e, _⟩
          · exact .inl e
          · omega
          · omega
          · omega
          · exact .inr ⟨e, h4⟩
        · rename_i n0 n1 n3 n4
          refine Oper.wp_mono (fun a' w' h3 => ?_) (wp_put hap hsk hsj hy h1)
          obtain ⟨h3, h4⟩ := h3
          refine step a' w' ?_ h3 h4
          unfold Mayb at hfj
          rcases hfj with e | e | e | e | ⟨_, e⟩
          · exact .inl e
          · exact absurd e n0
          · exact absurd e n1
          · exact absurd e n3
          · exact absurd e n4
      · rename_i hw
        rw [if_neg hw]
        exact ⟨h1.1, h1.2.1, go undef h1.2.2⟩

def mark (n : Nat) (seen : List Nat) : Array Bool := ((List.range n).map fun j => seen.contains j).toArray
theorem mark_get {n j : Nat} {seen : List Nat} (d : Bool) (h : j < n) : (mark n seen).getD j d = seen.contains j := by simp [mark, h]
theorem mark_set {n k : Nat} {seen : List Nat} : (mark n seen).setIfInBounds k true = mark n (k :: seen) := by
  apply Array.ext
  · simp [mark]
  · intro i h1 h2
    simp only [mark, List.setIfInBounds_toArray, List.getElem_toArray, List.getElem_set, List.getElem_map, List.getElem_range]
    by_cases e : k = i
    · subst e; simp
    · have : ¬ i = k := fun h => e h.symm
      simp [e, this]

theorem TOps.any {S : World → Prop} {fl : Nat → Nat} {ms : Array Nat} (hv : okMasks ops ms = true) (hsel : Region.noSelect ops = true) : ∀ (s seen fs : List Nat) (a : Act) (w : World),
    (∀ j, j < ops.size → j ∈ seen ∨ j ∈ s) → okFrom ops ms seen s fs = true → Down ops (mark ops.size seen) → fs = s.map fl → TOps P ops Q S fs (pk ops.toList s) a w → wpAnyT P ops Q S fl s.length (mark ops.size seen) a w := by
  intro s
  induction s with
  | nil =>
    intro seen fs a w hall _ _ _ h
    refine ⟨?_, ?_⟩
    · rw [List.eq_nil_iff_forall_not_mem]
      intro j hj
      obtain ⟨hun, o, ho, _⟩ := mem_ready.1 hj
      have hlt : j < ops.size := (Array.getElem?_eq_some_iff.1 ho).1
      rw [mark_get true hlt] at hun
      rcases hall j hlt with h1 | h1
      · simp at hun; exact hun h1
      · cases h1
    · unfold pk TOps at h; exact h
  | cons k s ih =>
    intro seen fs a w hall hok hd hfs h
    subst hfs
    simp only [okFrom, List.map_cons, List.tail_cons, List.headD_cons, Bool.and_eq_true] at hok
    obtain ⟨hk, hnext⟩ := hok
    cases hok : ops[k]? with
    | none => simp [hok] at hk
    | some ok =>
      simp only [hok, Bool.and_eq_true] at hk
      obtain ⟨⟨hedge, hkun⟩, hpair⟩ := hk
      have hkun' : ¬ k ∈ seen := by simpa using hkun
      have hlt : k < ops.size := (Array.getElem?_eq_some_iff.1 hok).1
      have rdy : k ∈ Region.ready .any ops (mark ops.size seen) := by
        refine mem_ready.2 ⟨by rw [mark_get true hlt]; simpa using hkun', ok, hok, fun e he hb => ?_⟩
        have hc := List.all_eq_true.1 hedge e.on (mem_edges.2 ⟨e, he, hb, rfl⟩)
        simp only [Bool.and_eq_true] at hc
        rw [mark_get false (blt_lt hc.2)]; exact hc.1
      have later : ∀ j oj, ops[j]? = some oj → j ≠ k → (mark ops.size seen).getD j true = false → j ∈ s := by
        intro j oj hoj hjk hun
        have hjlt : j < ops.size := (Array.getElem?_eq_some_iff.1 hoj).1
        rw [mark_get true hjlt] at hun
        rcases hall j hjlt with h1 | h1
        · simp at hun; exact absurd h1 hun
        · rcases List.mem_cons.1 h1 with h1 | h1
          · exact absurd h1 hjk
          · exact h1
      have pair : ∀ j oj, ops[j]? = some oj → j ∈ s → (ms.getD j 0).testBit k = true ∨ (ok.apart ops oj = true ∧ Mayb (fl k) (fl j) ∧ (fl k = 0 ∨ fl k = 1 ∨ fl k = 3)) := by
        intro j oj hoj hj
        have hm : (j, fl j) ∈ s.zip (s.map fl) := by
          clear hpair ih hall hnext h later
          induction s with
          | nil => cases hj
          | cons x s ih2 =>
            rcases List.mem_cons.1 hj with rfl | hj
            · simp
            · simp only [List.map_cons, List.zip_cons_cons]; exact List.mem_cons_of_mem _ (ih2 hj)
        have := List.all_eq_true.1 hpair _ hm
        simp only [hoj, Bool.and_eq_true, Bool.or_eq_true, beq_iff_eq] at this
        rcases this.2 with h1 | ⟨h1, h2⟩
        · exact .inl h1
        · refine .inr ⟨h1, ?_⟩
          unfold Mayb
          omega
      have hall' : ∀ j, j < ops.size → j ∈ k :: seen ∨ j ∈ s := by
        intro j hj
        rcases hall j hj with h1 | h1
        · exact .inl (by simp [h1])
        · rcases List.mem_cons.1 h1 with h1 | h1
          · exact .inl (by simp [h1])
          · exact .inr h1
      have hd' : Down ops (mark ops.size (k :: seen)) := by rw [← mark_set]; exact hd.step rdy
      have hget : ops.toList.getD k default = ok := by simp [List.getD, hok]
      simp only [List.map_cons, pk, hget] at h
      unfold TOps at h
      simp only [List.headD_cons, List.tail_cons] at h
      have next : ∀ a w, TOps P ops Q S (s.map fl) (pk ops.toList s) a w → wpAnyT P ops Q S fl s.length ((mark ops.size seen).setIfInBounds k true) a w := by
        intro a w h
        rw [mark_set]
        exact ih (k :: seen) _ a w hall' hnext hd' rfl h
      have value : fl k = 0 ∨ fl k = 1 ∨ fl k = 3 → (∃ v, YS P ops (SS S (fl k) w) ok v a ∧ (fl k = 3 → S w) ∧ TOps P ops Q S (s.map fl) (pk ops.toList s) (a.put ok.dst v) w) → wpAnyT P ops Q S fl (s.length + 1) (mark ops.size seen) a w := by
        rintro hfk ⟨v, hy, hS, h⟩
        refine firstT hv hsel hok hfk s.length _ a w hd rdy ?_ hy hS (next _ _ h)
        intro j oj hoj hjk hun
        rcases pair j oj hoj (later j oj hoj hjk hun) with h1 | ⟨h1, h2, _⟩
        · exact .inl h1
        · exact .inr ⟨h1, h2⟩
      have only : ¬ (fl k = 0 ∨ fl k = 1 ∨ fl k = 3) → stepT P ops S fl k (wpAnyT P ops Q S fl s.length ((mark ops.size seen).setIfInBounds k true)) a w → wpAnyT P ops Q S fl (s.length + 1) (mark ops.size seen) a w := by
        intro hn hstep
        refine ⟨fun h0 => (by rw [h0] at rdy; cases rdy), fun j hj => ?_⟩
        have hjk : j = k := by
          refine Classical.byContradiction fun hne => ?_
          obtain ⟨hun, oj, hoj, _⟩ := mem_ready.1 hj
          rcases pair j oj hoj (later j oj hoj hne hun) with h1 | ⟨_, _, h2⟩
          · exact (waits_spec hv hd (by rw [mark_get false hlt]; simpa using hkun') j h1 oj hoj).2 hj
          · exact hn h2
        subst hjk
        exact hstep
      by_cases hw : Region.wanted ok (yielded ops a.tmps) = true
      · rw [if_pos hw] at h
        split at h
        · rename_i e
          obtain ⟨v, hr, h⟩ := h
          exact value (.inl e) ⟨v, .inl ⟨hw, fun w' _ => hr w'⟩, by omega, h⟩
        · rename_i e
          obtain ⟨v, hr, h⟩ := h
          exact value (.inr (.inl e)) ⟨v, .inl ⟨hw, fun w' h' => by rw [e] at h'; simp [SS] at h'; subst h'; exact hr⟩, by omega, h⟩
        · rename_i e
          obtain ⟨hS, v, hr, h⟩ := h
          exact value (.inr (.inr e)) ⟨v, .inl ⟨hw, fun w' h' => hr w' (by rw [e] at h'; simpa [SS] using h')⟩, fun _ => hS, h⟩
        · rename_i e
          refine only (by omega) ?_
          unfold stepT
          simp only [hok]
          rw [if_pos hw, e]
          exact Oper.wp_mono (fun a w h => ⟨h.1, next a w h.2⟩) h
        · rename_i n0 n1 n3 n4
          refine only (fun e => e.elim n0 fun e => e.elim n1 n3) ?_
          unfold stepT
          simp only [hok]
          rw [if_pos hw]
          have h' := Oper.wp_mono (fun a w h => next a w h) h
          revert n0 n1 n3 n4
          generalize fl k = m
          intro n0 n1 n3 n4
          match m with
          | 0 => exact absurd rfl n0
          | 1 => exact absurd rfl n1
          | 2 => exact h'
          | 3 => exact absurd rfl n3
          | 4 => exact absurd rfl n4
          | m + 5 => exact h'
      · rw [if_neg hw] at h
        by_cases hfk : fl k = 0 ∨ fl k = 1 ∨ fl k = 3
        · exact value hfk ⟨undef, .inr ⟨by simpa using hw, rfl⟩, h.1, h.2.2⟩
        · refine only hfk ?_
          unfold stepT
          simp only [hok]
          rw [if_neg hw]
          exact ⟨h.1, h.2.1, next _ _ h.2.2⟩

def flagOf (s fs : List Nat) (i : Nat) : Nat := ((s.zip fs).find? fun x => x.1 == i).elim 2 (·.2)
theorem flagOf_map : ∀ (s fs : List Nat), s.length = fs.length → s.Nodup → s.map (flagOf s fs) = fs := by
  intro s
  induction s with
  | nil => intro fs h _; cases fs with
    | nil => rfl
    | cons _ _ => simp at h
  | cons k s ih =>
    intro fs h hn
    cases fs with
    | nil => simp at h
    | cons f fs =>
      obtain ⟨h1, h2⟩ := List.nodup_cons.1 hn
      simp only [List.map_cons]
      congr 1
      · simp [flagOf]
      · have := ih fs (by simpa using h) h2
        conv => rhs; rw [← this]
        refine List.map_congr_left fun j hj => ?_
        have : ¬ k = j := fun e => h1 (e ▸ hj)
        simp [flagOf, this]
theorem okFrom_nodup {ms : Array Nat} : ∀ (s seen fs : List Nat), s.length = fs.length → okFrom ops ms seen s fs = true → s.Nodup := by
  intro s
  induction s with
  | nil => intro _ _ _ _; exact List.nodup_nil
  | cons k s ih =>
    intro seen fs hl h
    cases fs with
    | nil => simp at hl
    | cons f fs =>
      simp only [okFrom, Bool.and_eq_true, List.tail_cons] at h
      obtain ⟨h1, h2⟩ := h
      have hl' : s.length = fs.length := by simpa using hl
      refine List.nodup_cons.2 ⟨fun hk => ?_, ih _ _ hl' h2⟩
      split at h1
      · simp only [Bool.and_eq_true] at h1
        have hm : ∃ g, (k, g) ∈ s.zip fs := by
          clear h1 h2 ih hl
          induction s generalizing fs with
          | nil => cases hk
          | cons x s ih2 =>
            cases fs with
            | nil => simp at hl'
            | cons y fs =>
              rcases List.mem_cons.1 hk with rfl | hk
              · exact ⟨y, by simp⟩
              · obtain ⟨g, hg⟩ := ih2 fs (by simpa using hl') hk
                exact ⟨g, by simp only [List.zip_cons_cons]; exact List.mem_cons_of_mem _ hg⟩
        obtain ⟨g, hg⟩ := hm
        have := List.all_eq_true.1 h1.2 _ hg
        simp at this
      · cases h1

theorem cd_draw {c : Cx} {n : Nat} {fr : Fr} {L : List As} (Ls : List As) {id : Nat} {l : List Oper} (s fs : List Nat) (hm : P.follows .mixedOrders = true) (hok : okDraw l.toArray s fs = true) (h : Op P c n l.toArray Q Ls fs (pk l s) fr L) :
    Cd P c n (.region id l.toArray true) fr L Q := fun a w hf hs => by
  have hs' : Sat L c { w with drawn := w.drawn + 1 } := Sat.upd hs (fun k o h => h) rfl rfl rfl
  simp only [okDraw, Bool.and_eq_true, beq_iff_eq] at hok
  obtain ⟨⟨⟨⟨⟨h1, h2⟩, h3⟩, h4⟩, h5⟩, h6⟩ := hok
  have hl : s.length = fs.length := by rw [h3, h4]
  have hmap := flagOf_map s fs hl (okFrom_nodup s [] fs hl h6)
  have e : mark l.toArray.size [] = Array.replicate l.toArray.size false := by
    apply Array.ext
    · simp [mark]
    · intro i h1 h2; simp [mark]
  refine wp_region_any hm ?_
  have key := TOps.any (P := P) (Q := Q) (S := Sat Ls c) (fl := flagOf s fs) h2 h1 s [] fs a { w with drawn := w.drawn + 1 } (fun j hj => .inr (by simpa using List.all_eq_true.1 h5 j (List.mem_range.2 hj))) h6 ?_ hmap.symm (by simpa using h a _ hf hs')
  · rw [e, h3] at key
    exact key.any
  · intro j o ho hj
    have hjlt : j < l.toArray.size := (Array.getElem?_eq_some_iff.1 ho).1
    rw [mark_get false hjlt] at hj
    simp at hj
theorem cd_drawL {c : Cx} {n : Nat} {fr : Fr} {L : List As} {id : Nat} {l : List Oper} (s fs : List Nat) (hm : P.follows .mixedOrders = true) (hok : okDraw l.toArray s fs = true) (h : Op P c n l.toArray Q L fs (pk l s) fr L) :
    Cd P c n (.region id l.toArray true) fr L Q := cd_draw L s fs hm hok h
end
end Go.SL
/- The rules as a walk uses them, one a step; wraps that do not wrap. Over any program. -/
namespace Go.SL
section
variable {P : Program} {c : Cx} {n : Nat} {ops : Array Oper} {Q : Exit → Act → World → Prop} {fr : Fr} {L Ls : List As}
variable {d : Nat} {ty : TypeId} {pos : String} {aft : Array Edge} {fl : List Nat} {rest : List Oper}

theorem op_alloc {t : TypeId} {z : List Value} (hz : zeroC P t = some z) (hd : Nat.blt d n = true) (h : ∀ b, Op P c n ops Q Ls fl rest ((d, .pointer (some ⟨b, 0, none⟩)) :: fr) (pt b t z :: L)) :
    Op P c n ops Q Ls (2 :: fl) (⟨some d, .alloc t, ty, pos, aft, none⟩ :: rest) fr L := op_e (ef_alloc hz) hd fun _ _ ⟨b, hv, hl⟩ => by subst hv; subst hl; exact h b
theorem op_boxa {t : TypeId} {x : Operand} {z : List Value} (hx : ev fr x = some (.agg z.toArray)) (hd : Nat.blt d n = true) (h : ∀ b, Op P c n ops Q Ls fl rest ((d, .pointer (some ⟨b, 0, none⟩)) :: fr) (pt b t z :: L)) :
    Op P c n ops Q Ls (2 :: fl) (⟨some d, .box t x, ty, pos, aft, none⟩ :: rest) fr L := op_e (ef_box hx (z := z) (by simp [Value.cells])) hd fun _ _ ⟨b, hv, hl⟩ => by subst hv; subst hl; exact h b
theorem op_box1 {t : TypeId} {x : Operand} {v : Value} (hx : ev fr x = some v) (h1 : v.oneCell' = true) (hd : Nat.blt d n = true) (h : ∀ b, Op P c n ops Q Ls fl rest ((d, .pointer (some ⟨b, 0, none⟩)) :: fr) (pt b t [v] :: L)) :
    Op P c n ops Q Ls (2 :: fl) (⟨some d, .box t x, ty, pos, aft, none⟩ :: rest) fr L := op_e (ef_box hx (z := [v]) (by cases v <;> first | rfl | cases h1)) hd fun _ _ ⟨b, hv, hl⟩ => by subst hv; subst hl; exact h b

theorem splice_one (l : List Value) (i : Nat) (v : Value) (h : i < l.length) : splice l i [v] = l.set i v := by
  apply List.ext_getElem?
  intro j
  simp only [splice, List.length_singleton, List.getElem?_append, List.length_append, List.length_take, List.getElem?_take, List.getElem?_drop, List.getElem?_set]
  have : min i l.length = i := by omega
  rw [this]
  by_cases h1 : j < i
  · have : ¬ i = j := by omega
    have : j < i + 1 := by omega
    simp [*]
  · by_cases h2 : j = i
    · subst h2; simp [h]
    · have a1 : ¬ j < i + 1 := by omega
      have a2 : ¬ i = j := by omega
      simp only [a1, a2, if_false]
      congr 1; omega

/-- A scalar stored. -/
theorem op_st1_ {t : TypeId} {x y : Operand} {b i : Nat} {T : TypeId} {l l' : List Value} {M : List As} {v : Value} (hx : ev fr x = some (.pointer (some ⟨b, i, none⟩))) (hy : ev fr y = some v) (ht : sizeK P t = some 1)
    (h1 : v.oneCell' = true) (hr : Rem L (pt b T l) M) (hlen : Nat.blt i l.length = true) (hset : l.set i v = l') (h : Op P c n ops Q Ls fl rest fr (pt b T l' :: M)) :
    Op P c n ops Q Ls (2 :: fl) (⟨none, .store t x y, ty, pos, aft, none⟩ :: rest) fr L := by
  have hi := blt_lt hlen
  refine op_e0 (ef_st (cs := [v]) hx hy (by cases v <;> first | rfl | cases h1) ht hr (by simp; omega) (by simp [ones, h1])) fun _ _ e => ?_
  rw [e, splice_one l i v hi, hset]; exact h
theorem op_st1 {t : TypeId} {x y : Operand} {b i : Nat} {T : TypeId} {l l' : List Value} {M : List As} {v : Value} (ht : sizeK P t = some 1) (hx : ev fr x = some (.pointer (some ⟨b, i, none⟩))) (hy : ev fr y = some v)
    (h1 : v.oneCell' = true) (hr : Rem L (pt b T l) M) (hlen : Nat.blt i l.length = true) (hset : l.set i v = l') (h : Op P c n ops Q Ls fl rest fr (pt b T l' :: M)) :
    Op P c n ops Q Ls (2 :: fl) (⟨none, .store t x y, ty, pos, aft, none⟩ :: rest) fr L := op_st1_ hx hy ht h1 hr hlen hset h
/-- A scalar stored, of an index that is no numeral. -/
theorem op_st1i {t : TypeId} {x y : Operand} {b i : Nat} {T : TypeId} {l : List Value} {M : List As} {v : Value} (ht : sizeK P t = some 1) (hx : ev fr x = some (.pointer (some ⟨b, i, none⟩))) (hy : ev fr y = some v)
    (h1 : v.oneCell' = true) (hr : Rem L (pt b T l) M) (hi : i < l.length) (h : Op P c n ops Q Ls fl rest fr (pt b T (l.set i v) :: M)) :
    Op P c n ops Q Ls (2 :: fl) (⟨none, .store t x y, ty, pos, aft, none⟩ :: rest) fr L := by
  refine op_e0 (ef_st (cs := [v]) hx hy (by cases v <;> first | rfl | cases h1) ht hr (by simp; omega) (by simp [ones, h1])) fun _ _ e => ?_
  rw [e, splice_one l i v hi]; exact h
theorem op_st1e {t : TypeId} {x y : Operand} {b i : Nat} {T : TypeId} {l l' : List Value} {M : List As} {v : Value} (ht : sizeK P t = some 1) (hx : ev fr x = some (.pointer (some ⟨b, i, none⟩))) (hy : ev fr y = some v)
    (h1 : v.oneCell' = true) (hr : Rem L (pt b T l) M) (hi : i < l.length) (hset : l.set i v = l') (h : Op P c n ops Q Ls fl rest fr (pt b T l' :: M)) :
    Op P c n ops Q Ls (2 :: fl) (⟨none, .store t x y, ty, pos, aft, none⟩ :: rest) fr L := op_st1i ht hx hy h1 hr hi (hset ▸ h)
/-- A struct stored. -/
theorem op_sta {t : TypeId} {x y : Operand} {b i k : Nat} {T : TypeId} {l l' cs : List Value} {M : List As} (ht : sizeK P t = some k) (hx : ev fr x = some (.pointer (some ⟨b, i, none⟩))) (hy : ev fr y = some (.agg cs.toArray)) (hk : cs.length = k)
    (h1 : ones cs = true) (hr : Rem L (pt b T l) M) (hlen : i + k ≤ l.length) (hset : splice l i cs = l') (h : Op P c n ops Q Ls fl rest fr (pt b T l' :: M)) :
    Op P c n ops Q Ls (2 :: fl) (⟨none, .store t x y, ty, pos, aft, none⟩ :: rest) fr L := by
  subst hk
  refine op_e0 (ef_st (cs := cs) hx hy (by simp [Value.cells]) ht hr hlen h1) fun _ _ e => ?_
  rw [e, hset]; exact h

theorem y_ldk {t : TypeId} {x : Operand} {p : Addr} {k : Nat} {cs : List Value} {dd : Option Tmp} {g : Option (Nat × Bool)} (ht : aggK P t = some k) (hk : cs.length = k) (hx : ev fr x = some (.pointer (some p))) (hr : Rds c L p cs) : Yl P c n fr L ⟨dd, .load t x, ty, pos, aft, g⟩ (.agg cs.toArray) := by
  subst hk; exact y_lda ht hx hr
theorem rds_k {b i k : Nat} {T : TypeId} {l : List Value} {M : List As} {cs : List Value} (hr : Rem L (pt b T l) M) (hk : cs.length = k) (hv : (l.drop i).take k = cs) : Rds c L ⟨b, i, none⟩ cs := rds_pt hr (by rw [hk]; exact hv)
theorem rds_all {b : Nat} {T : TypeId} {l : List Value} {M : List As} (hr : Rem L (pt b T l) M) : Rds c L ⟨b, 0, none⟩ l := rds_pt hr (by simp)

theorem op_ld {t : TypeId} {x : Operand} {b i : Nat} {T : TypeId} {l : List Value} {M : List As} {v : Value} (ht : scalarT P t = true) (hx : ev fr x = some (.pointer (some ⟨b, i, none⟩))) (hd : Nat.blt d n = true)
    (hr : Rem L (pt b T l) M) (hv : l[i]? = some v) (h : Op P c n ops Q Ls fl rest ((d, v) :: fr) L) : Op P c n ops Q Ls (1 :: fl) (⟨some d, .load t x, ty, pos, aft, none⟩ :: rest) fr L := op_r (y_ld ht hx (rd_pt hr hv)) hd h
theorem op_lda {t : TypeId} {x : Operand} {b i k : Nat} {T : TypeId} {l cs : List Value} {M : List As} (ht : aggK P t = some k) (hx : ev fr x = some (.pointer (some ⟨b, i, none⟩))) (hd : Nat.blt d n = true)
    (hr : Rem L (pt b T l) M) (hv : (l.drop i).take k = cs) (hk : cs.length = k) (h : Op P c n ops Q Ls fl rest ((d, .agg cs.toArray) :: fr) L) : Op P c n ops Q Ls (1 :: fl) (⟨some d, .load t x, ty, pos, aft, none⟩ :: rest) fr L := op_r (y_ldk ht hk hx (rds_k hr hk hv)) hd h
theorem op_ldp {t : TypeId} {x : Operand} {p : Addr} {v : Value} (ht : scalarT P t = true) (hx : ev fr x = some (.pointer (some p))) (hd : Nat.blt d n = true)
    (hr : Rd c L p v) (h : Op P c n ops Q Ls fl rest ((d, v) :: fr) L) : Op P c n ops Q Ls (1 :: fl) (⟨some d, .load t x, ty, pos, aft, none⟩ :: rest) fr L := op_r (y_ld ht hx hr) hd h
theorem op_ldpa {t : TypeId} {x : Operand} {p : Addr} {k : Nat} {cs : List Value} (ht : aggK P t = some k) (hx : ev fr x = some (.pointer (some p))) (hd : Nat.blt d n = true)
    (hr : Rds c L p cs) (hk : cs.length = k) (h : Op P c n ops Q Ls fl rest ((d, .agg cs.toArray) :: fr) L) : Op P c n ops Q Ls (1 :: fl) (⟨some d, .load t x, ty, pos, aft, none⟩ :: rest) fr L := op_r (y_ldk ht hk hx hr) hd h

theorem op_lds {t : TypeId} {x : Operand} {b i : Nat} {T : TypeId} {l : List Value} {M : List As} {v : Value} (ht : scalarT P t = true) (hx : ev fr x = some (.pointer (some ⟨b, i, none⟩))) (hd : Nat.blt d n = true)
    (hr : Rem Ls (pt b T l) M) (hv : l[i]? = some v) (hS : ∀ w, Sat L c w → Sat Ls c w) (h : Op P c n ops Q Ls fl rest ((d, v) :: fr) L) : Op P c n ops Q Ls (3 :: fl) (⟨some d, .load t x, ty, pos, aft, none⟩ :: rest) fr L := op_rs (y_ld ht hx (rd_pt hr hv)) hd hS h
theorem op_ldas {t : TypeId} {x : Operand} {b i k : Nat} {T : TypeId} {l cs : List Value} {M : List As} (ht : aggK P t = some k) (hx : ev fr x = some (.pointer (some ⟨b, i, none⟩))) (hd : Nat.blt d n = true)
    (hr : Rem Ls (pt b T l) M) (hv : (l.drop i).take k = cs) (hk : cs.length = k) (hS : ∀ w, Sat L c w → Sat Ls c w) (h : Op P c n ops Q Ls fl rest ((d, .agg cs.toArray) :: fr) L) : Op P c n ops Q Ls (3 :: fl) (⟨some d, .load t x, ty, pos, aft, none⟩ :: rest) fr L := op_rs (y_ldk ht hk hx (rds_k hr hk hv)) hd hS h
theorem op_ldps {t : TypeId} {x : Operand} {p : Addr} {v : Value} (ht : scalarT P t = true) (hx : ev fr x = some (.pointer (some p))) (hd : Nat.blt d n = true)
    (hr : Rd c Ls p v) (hS : ∀ w, Sat L c w → Sat Ls c w) (h : Op P c n ops Q Ls fl rest ((d, v) :: fr) L) : Op P c n ops Q Ls (3 :: fl) (⟨some d, .load t x, ty, pos, aft, none⟩ :: rest) fr L := op_rs (y_ld ht hx hr) hd hS h
theorem op_ldpas {t : TypeId} {x : Operand} {p : Addr} {k : Nat} {cs : List Value} (ht : aggK P t = some k) (hx : ev fr x = some (.pointer (some p))) (hd : Nat.blt d n = true)
    (hr : Rds c Ls p cs) (hk : cs.length = k) (hS : ∀ w, Sat L c w → Sat Ls c w) (h : Op P c n ops Q Ls fl rest ((d, .agg cs.toArray) :: fr) L) : Op P c n ops Q Ls (3 :: fl) (⟨some d, .load t x, ty, pos, aft, none⟩ :: rest) fr L := op_rs (y_ldk ht hk hx hr) hd hS h
theorem op_alloc4 {t : TypeId} {z : List Value} (hz : zeroC P t = some z) (hd : Nat.blt d n = true) (hS : ∀ w, Sat L c w → Sat Ls c w) (h : ∀ b, Op P c n ops Q Ls fl rest ((d, .pointer (some ⟨b, 0, none⟩)) :: fr) (pt b t z :: L)) :
    Op P c n ops Q Ls (4 :: fl) (⟨some d, .alloc t, ty, pos, aft, none⟩ :: rest) fr L := op_e4 (ef_alloc hz) hd fun _ _ ⟨b, hv, hl⟩ => by subst hv; subst hl; exact ⟨fun w hw => hS w hw.drop, h b⟩
theorem op_boxa4 {t : TypeId} {x : Operand} {z : List Value} (hx : ev fr x = some (.agg z.toArray)) (hd : Nat.blt d n = true) (hS : ∀ w, Sat L c w → Sat Ls c w) (h : ∀ b, Op P c n ops Q Ls fl rest ((d, .pointer (some ⟨b, 0, none⟩)) :: fr) (pt b t z :: L)) :
    Op P c n ops Q Ls (4 :: fl) (⟨some d, .box t x, ty, pos, aft, none⟩ :: rest) fr L := op_e4 (ef_box hx (z := z) (by simp [Value.cells])) hd fun _ _ ⟨b, hv, hl⟩ => by subst hv; subst hl; exact ⟨fun w hw => hS w hw.drop, h b⟩

/-! ### Structs put together -/
def placesK (P : Program) (t : Nat) : Option (List (Nat × Nat)) := match P.underlying t with
  | some (.struct fs) => fs.toList.mapM fun f => (P.info? f.type).map fun i => (f.offset, i.size)
  | _ => none
def fillL (ps : List (Nat × Nat)) : List Value → List (Nat × Value) → Option (List Value)
  | z, [] => some z
  | z, (i, v) :: r => match ps[i]? with
    | some (o, s) => if v.cells.size = s ∧ o + s ≤ z.length then fillL ps (splice z o v.cells.toList) r else none
    | none => none
def evps (fr : Fr) : List (Nat × Operand) → Option (List (Nat × Value))
  | [] => some []
  | (i, x) :: xs => match ev fr x, evps fr xs with
    | some v, some vs => some ((i, v) :: vs)
    | _, _ => none
theorem Fits.evps {a : Act} (h : Fits n fr a) : ∀ {xs : List (Nat × Operand)} {vs : List (Nat × Value)}, SL.evps fr xs = some vs → xs.map (fun (i, x) => (i, a.eval x)) = vs
  | [], vs, e => by simpa [SL.evps] using e
  | (i, x) :: xs, vs, e => by
    unfold SL.evps at e
    split at e
    · rename_i v us hv hus
      injection e with e; subst e
      simp [h.eval hv]
      have := h.evps hus
      simpa using this
    · cases e

theorem foldset (off : Nat) : ∀ (vs : List Value) (k : Nat) (cs : Array Value), off + k + vs.length ≤ cs.size →
    (vs.zipIdx k).foldl (fun cs (x : Value × Nat) => cs.setIfInBounds (off + x.2) x.1) cs = (splice cs.toList (off + k) vs).toArray
  | [], k, cs, _ => by simp [splice]
  | v :: vs, k, cs, h => by
    simp only [List.zipIdx_cons, List.foldl_cons]
    rw [foldset off vs (k + 1) _ (by simp at h ⊢; omega)]
    congr 1
    have := list_seg_step cs.toList (off + k) v vs (by simp at h ⊢; omega)
    simp only [splice, Array.toList_setIfInBounds, List.length_cons]
    rw [← this]
    congr 2
theorem fillL_spec (ps : List (Nat × Nat)) (pl : Nat → Option (Nat × Nat)) (hpl : ∀ i p, ps[i]? = some p → pl i = some p) : ∀ (r : List (Nat × Value)) (z cs : List Value), fillL ps z r = some cs → Instr.fill pl z.toArray r = some cs.toArray
  | [], z, cs, h => by simp [fillL] at h; subst h; simp [Instr.fill]
  | (i, v) :: r, z, cs, h => by
    unfold fillL at h
    split at h
    · rename_i o s hp
      split at h
      · rename_i hc
        have ih := fillL_spec ps pl hpl r _ cs h
        unfold Instr.fill
        have hp' := hpl i _ hp
        simp only [hp']
        have hn : ¬ ((decide (v.cells.size ≠ s) || decide (o + v.cells.size > z.toArray.size)) = true) := by simp; omega
        rw [if_neg (by simpa using hn)]
        have e := foldset o v.cells.toList 0 z.toArray (by simp; omega)
        rw [← Array.foldl_toList, Array.toList_zipIdx]
        simp only [Nat.add_zero] at e
        rw [show (v.cells.toList.zipIdx 0).foldl (fun cs (x : Value × Nat) => match x with | (c, j) => cs.setIfInBounds (o + j) c) z.toArray = (splice z o v.cells.toList).toArray from e]
        exact ih
      · cases h
    · cases h
theorem y_build {t : TypeId} {xs : List (Nat × Operand)} {vs : List (Nat × Value)} {ps : List (Nat × Nat)} {z cs : List Value} {dd : Option Tmp} {g : Option (Nat × Bool)}
    (hp : placesK P t = some ps) (hz : zeroC P t = some z) (hx : evps fr xs = some vs) (hf : fillL ps z vs = some cs) : Yf P n fr ⟨dd, .build t xs.toArray, ty, pos, aft, g⟩ (.agg cs.toArray) := fun a w hfit => by
  have hv := hfit.evps hx
  have hb : P.built t vs = some cs.toArray := by
    unfold placesK at hp
    split at hp
    · rename_i fs hu
      unfold zeroC at hz
      split at hz
      · rename_i it hit
        cases hzz : it.zero with
        | none => simp [hzz] at hz
        | some u =>
          simp [hzz] at hz
          have hu2 : u.cells = z.toArray := by rw [← hz]
          simp only [Program.built, hit, hu, hzz, hp, hu2]
          exact fillL_spec ps _ (fun i p h => by simpa using h) vs z cs hf
      · cases hz
    · cases hp
  have hr := run_build (P := P) w t vs.toArray cs.toArray (by simpa using hb)
  simp only [execOp, List.map_toArray]
  rw [hv]
  simp [hr, Sem.run]

theorem op_build {t : TypeId} {xs : List (Nat × Operand)} {vs : List (Nat × Value)} {ps : List (Nat × Nat)} {z cs : List Value} (hp : placesK P t = some ps) (hz : zeroC P t = some z) (hx : evps fr xs = some vs) (hd : Nat.blt d n = true) (hf : fillL ps z vs = some cs)
    (h : Op P c n ops Q Ls fl rest ((d, .agg cs.toArray) :: fr) L) : Op P c n ops Q Ls (0 :: fl) (⟨some d, .build t xs.toArray, ty, pos, aft, none⟩ :: rest) fr L := op_y (y_build hp hz hx hf) hd h

/-! ### Results -/
def rvOK (P : Program) (c : Cx) (fr : Fr) (L : List As) : List ResultVar → List Value → Prop
  | [], [] => True
  | .tmp t :: rs, v :: vs => fr.get t = some v ∧ rvOK P c fr L rs vs
  | .cell a T :: rs, v :: vs => (∃ p, fr.get a = some (.pointer (some p)) ∧ ((scalarT P T = true ∧ Rd c L p v) ∨ ∃ cs k, aggK P T = some k ∧ cs.length = k ∧ Rds c L p cs ∧ v = .agg cs.toArray)) ∧ rvOK P c fr L rs vs
  | _, _ => False
theorem run_scalar {t : TypeId} {p : Addr} {v : Value} {w : World} (ht : scalarT P t = true) (hc : w.cell? p = some v) : (loadVar t p).run P w = .ok v w := by
  unfold scalarT at ht
  split at ht
  · cases ht
  · cases ht
  · rename_i D _ h1 h2 hu hi
    have hagg : (isAgg t).run P w = .ok false w := by
      simp only [isAgg, Sem.run_bind, run_underlying hu, Result.andThen_ok]
      cases D <;> first | rfl | exact absurd hu (h1 _) | exact absurd hu (h2 _ _)
    simp [loadVar, hagg, load, Sem.run, hc]
  · cases ht
theorem run_aggr {t : TypeId} {p : Addr} {cs : List Value} {w : World} (ht : aggK P t = some cs.length) (hc : ∀ j v, cs[j]? = some v → w.cell? (p.add j) = some v) : (loadVar t p).run P w = .ok (.agg cs.toArray) w := by
  have hl := run_loadCells_list (P := P) w p cs hc
  have hh : ∃ i, P.info? t = some i ∧ (isAgg t).run P w = .ok true w ∧ i.size = cs.length := by
    unfold aggK at ht
    split at ht
    · rename_i hu hi
      exact ⟨_, hi, by simp [isAgg, run_underlying hu, Sem.run], by simpa using ht⟩
    · rename_i hu hi
      exact ⟨_, hi, by simp [isAgg, run_underlying hu, Sem.run], by simpa using ht⟩
    · cases ht
  obtain ⟨i, hi, hagg, hsz⟩ := hh
  simp [loadVar, hagg, run_sizeOf w hi, Program.cellsOf, hi, hsz, hl, Sem.run]
def resOf (tmps : Array Value) : ResultVar → Sem Value
  | .tmp t => pure (tmps.getD t undef)
  | .cell a t => do loadVar t (← asAddr (tmps.getD a undef))
theorem rvOK.run {a : Act} {w : World} (hf : Fits n fr a) (hs : Sat L c w) : ∀ {rs : List ResultVar} {vs : List Value}, rvOK P c fr L rs vs → (rs.mapM (resOf a.tmps)).run P w = Result.ok vs w
  | [], [], _ => by simp [Sem.run]
  | .tmp t :: rs, v :: vs, h => by
    obtain ⟨h1, h2⟩ := h
    have := rvOK.run hf hs h2
    simp [List.mapM_cons, resOf, hf.slots t v h1, this, Sem.run]
  | .cell q T :: rs, v :: vs, h => by
    obtain ⟨⟨p, hp, hv⟩, h2⟩ := h
    have := rvOK.run hf hs h2
    have hl : (loadVar T p).run P w = .ok v w := by
      rcases hv with ⟨h1, h3⟩ | ⟨cs, k, h1, hk, h3, rfl⟩
      · exact run_scalar h1 (h3 w hs)
      · subst hk; exact run_aggr h1 (h3 w hs)
    simp [List.mapM_cons, resOf, hf.slots q _ hp, asAddr, hl, this, Sem.run]
def tup : List Value → Value
  | [v] => v
  | vs => .tuple vs.toArray
theorem ent_rets {fn : Func} {R : Value → List As → Prop} {rs : List ResultVar} {vs : List Value} {e : Exit} (he : e = .ret ∨ e = .normal) (hr : fn.results = rs.toArray) (h : rvOK P c fr L rs vs) (hR : ∃ L', R (tup vs) L' ∧ ∀ w, Sat L c w → Sat L' c w) :
    Ent c n (bodyPost P fn fun e w' => ∃ v L', e = .returned v ∧ R v L' ∧ Sat L' c w') e fr L := fun a w hf hs => by
  obtain ⟨L', hR, hL⟩ := hR
  have hrun := h.run hf hs
  have : (results fn a.tmps).run P w = .ok (tup vs) w := by
    have e1 : results fn a.tmps = (do
        let vs ← fn.results.mapM (resOf a.tmps)
        pure (if h : vs.size = 1 then vs[0] else .tuple vs)) := rfl
    simp only [e1, hr, Array.mapM_eq_mapM_toList, Sem.run_bind]
    rw [Sem.run_map]
    simp only [hrun, Result.andThen_ok]
    match vs with
    | [] => simp [tup, Sem.run]
    | [v] => simp [tup, Sem.run]
    | v :: u :: vs => simp [tup, Sem.run]
  rcases he with rfl | rfl <;> exact ⟨hf.defers, _, this, _, L', rfl, hR, hL w hs⟩

/-! ### Wraps that do not wrap -/
theorem wi64 {z : Int} (h1 : -9223372036854775808 ≤ z) (h2 : z ≤ 9223372036854775807) : IntKind.i64.wrap z = z := by
  simp only [IntKind.wrap, IntKind.signed, IntKind.bits]; simp; omega
theorem wi32 {z : Int} (h1 : -2147483648 ≤ z) (h2 : z ≤ 2147483647) : IntKind.i32.wrap z = z := by
  simp only [IntKind.wrap, IntKind.signed, IntKind.bits]; simp; omega
theorem wu64 {z : Int} (h1 : 0 ≤ z) (h2 : z ≤ 18446744073709551615) : IntKind.u64.wrap z = z := by
  simp only [IntKind.wrap, IntKind.signed, IntKind.bits]; simp; omega
theorem wu32 {z : Int} (h1 : 0 ≤ z) (h2 : z ≤ 4294967295) : IntKind.u32.wrap z = z := by
  simp only [IntKind.wrap, IntKind.signed, IntKind.bits]; simp; omega
theorem wu8 {z : Int} (h1 : 0 ≤ z) (h2 : z ≤ 255) : IntKind.u8.wrap z = z := by
  simp only [IntKind.wrap, IntKind.signed, IntKind.bits]; simp; omega
theorem eqT {a b : Int} (h : a = b) : (a == b) = true := by simpa using h
theorem eqF {a b : Int} (h : a ≠ b) : (a == b) = false := by simpa using h
theorem neT {a b : Int} (h : a ≠ b) : (a != b) = true := by simpa using h
theorem neF {a b : Int} (h : a = b) : (a != b) = false := by simpa using h
end
end Go.SL
/- Slices that own their block; rows of structs; append, slice literals, make. Over any program. -/
namespace Go.SL

/-- A slice that owns its whole block: n elements, each of sz cells; cs: the elements' cells. -/
def ownS (T sz : Nat) (A : Option Addr) (m cap : Nat) (cs : List Value) : As := fun h =>
  (A = none ∧ m = 0 ∧ cap = 0 ∧ cs = [] ∧ h = Hp.emp) ∨
  ∃ b rest, A = some ⟨b, 0, none⟩ ∧ cs.length = m * sz ∧ (cs ++ rest).length = cap * sz ∧ pt b T (cs ++ rest) h

section
variable {P : Program} {c : Cx} {n : Nat} {ops : Array Oper} {Q : Exit → Act → World → Prop} {fr : Fr} {L M Ls : List As}
variable {d : Nat} {ty : TypeId} {pos : String} {aft : Array Edge} {fl : List Nat} {rest : List Oper}

theorem ownS_nil {T sz : Nat} {w : World} (h : Sat M c w) : Sat (ownS T sz none 0 0 [] :: M) c w := by
  refine ⟨Hp.emp, .inl ⟨rfl, rfl, rfl, rfl, rfl⟩, Hp.emp_disj _, ?_⟩
  have : c.with Hp.emp = c := by cases c; simp [Cx.with, Hp.emp_un]
  rw [this]; exact h
theorem ownS_mk {T sz b m cap : Nat} {cs r : List Value} {w : World} (h1 : cs.length = m * sz) (h2 : (cs ++ r).length = cap * sz) (h : Sat (pt b T (cs ++ r) :: M) c w) : Sat (ownS T sz (some ⟨b, 0, none⟩) m cap cs :: M) c w := by
  obtain ⟨x, hx, dx, k⟩ := h
  exact ⟨x, .inr ⟨b, r, rfl, h1, h2, hx⟩, dx, k⟩
theorem ownS_cases {T sz m cap : Nat} {A : Option Addr} {cs : List Value} {w : World} (h : Sat (ownS T sz A m cap cs :: M) c w) :
    (A = none ∧ m = 0 ∧ cap = 0 ∧ cs = [] ∧ Sat M c w) ∨ ∃ b r, A = some ⟨b, 0, none⟩ ∧ cs.length = m * sz ∧ (cs ++ r).length = cap * sz ∧ Sat (pt b T (cs ++ r) :: M) c w := by
  obtain ⟨x, hx, dx, k⟩ := h
  rcases hx with ⟨h1, h2, h3, h4, rfl⟩ | ⟨b, r, h1, h2, h3, h4⟩
  · refine .inl ⟨h1, h2, h3, h4, ?_⟩
    have : c.with Hp.emp = c := by cases c; simp [Cx.with, Hp.emp_un]
    rwa [this] at k
  · exact .inr ⟨b, r, h1, h2, h3, x, h4, dx, k⟩
theorem ownS_pos {T sz m cap : Nat} {A : Option Addr} {cs : List Value} {w : World} (hm : 0 < m) (h : Sat (ownS T sz A m cap cs :: M) c w) :
    ∃ b r, A = some ⟨b, 0, none⟩ ∧ cs.length = m * sz ∧ (cs ++ r).length = cap * sz ∧ Sat (pt b T (cs ++ r) :: M) c w := by
  rcases ownS_cases h with ⟨_, h0, _⟩ | h
  · omega
  · exact h
theorem ownS_len {T sz m cap : Nat} {A : Option Addr} {cs : List Value} {w : World} (h : Sat (ownS T sz A m cap cs :: M) c w) : cs.length = m * sz := by
  rcases ownS_cases h with ⟨_, h0, _, h1, _⟩ | ⟨_, _, _, h, _⟩
  · subst h0; subst h1; simp
  · exact h

/-- append: of a slice that owns its block, to cells that can be read. -/
theorem ef_append {dd : Option Tmp} {g : Option (Nat × Bool)} {t e sz by_ : Nat} {x y : Operand} {A : Option Addr} {p : Addr} {m cap k kc : Nat} {cs news z : List Value} {M : List As}
    (hk : sliceK P t = some (e, sz, by_)) (hz : zeroC P e = some z) (hx : ev fr x = some (.slice A m cap)) (hy : ev fr y = some (.slice (some p) k kc)) (hzs : z.length = sz) (hsz : 0 < sz)
    (hr : Rem L (ownS e sz A m cap cs) M) (hnl : news.length = k * sz) (hn : Rds c L p news) (h1 : ones news = true) (hkp : 0 < k) (hfit : (m + k) * by_ ≤ 140737488355328) (h63 : m + k ≤ 9223372036854775807) :
    Ef P c n fr L ⟨dd, .call { callee := .builtin .append, args := #[x, y], argTypes := #[t, t] }, ty, pos, aft, g⟩ fun v L' => ∃ A' cap', v = .slice A' (m + k) cap' ∧ L' = ownS e sz A' (m + k) cap' (cs ++ news) :: M := fun X a w hf hs N hN => by
  have hnews := hn w hs
  have hall : ∀ u ∈ news, u.oneCell' = true := fun u hu => List.all_eq_true.1 h1 u hu
  have hs' := Sat.rem hr hs
  have hti : ∃ inf, P.underlying t = some (.slice e) ∧ P.info? e = some inf ∧ inf.size = sz ∧ inf.bytes = by_ := by
    unfold sliceK at hk
    split at hk
    · rename_i e' hu
      cases hi : P.info? e' with
      | none => simp [hi] at hk
      | some inf => simp [hi] at hk; obtain ⟨rfl, h2, h3⟩ := hk; exact ⟨inf, hu, hi, h2, h3⟩
    · cases hk
  obtain ⟨inf, hu, hi, hsz', hby⟩ := hti
  have hzz : ∃ u, inf.zero = some u ∧ u.cells.toList = z := by
    unfold zeroC at hz
    rw [hi] at hz
    cases hzz : inf.zero with
    | none => simp [hzz] at hz
    | some u => simp [hzz] at hz; exact ⟨u, rfl, hz⟩
  obtain ⟨u, hzv, huz⟩ := hzz
  have husz : u.cells.size = sz := by rw [← hzs, ← huz]; simp
  have fin : ∀ v w', (Builtin.append_ #[t, t] ty #[.slice A m cap, .slice (some p) k kc]).run P w = .ok v w' → (∃ A' cap', v = .slice A' (m + k) cap' ∧ Sat (ownS e sz A' (m + k) cap' (cs ++ news) :: M) c w') →
      Oper.wp P ⟨dd, .call { callee := .builtin .append, args := #[x, y], argTypes := #[t, t] }, ty, pos, aft, g⟩ a w N X := by
    rintro v w' hrun ⟨A', cap', rfl, hsat⟩
    unfold Oper.wp
    have : (execOp a.eval ⟨dd, .call { callee := .builtin .append, args := #[x, y], argTypes := #[t, t] }, ty, pos, aft, g⟩).run P w = .ok (.value (.slice A' (m + k) cap')) w' := by
      simp [execOp, resolve, invoke, builtin, hf.eval hx, hf.eval hy, hrun, Sem.run]
    rw [this]
    exact hN _ _ _ ⟨A', cap', rfl, rfl⟩ hsat
  have newb : ∀ (C : List Value), Sat M c w → (∃ r, C = cs ++ news ++ r) → cs.length = m * sz → ∀ cap', C.length = cap' * sz → Sat (ownS e sz (some ⟨w.heap.size, 0, none⟩) (m + k) cap' (cs ++ news) :: M) c (w.drew.alloc (.cells C.toArray e)) := by
    rintro C hM ⟨r, rfl⟩ hcs cap' hcap
    refine ownS_mk (r := r) ?_ (by simpa using hcap) ?_
    · simp [hcs, hnl, Nat.add_mul]
    · have hd : Sat M c w.drew := Sat.upd hM (fun _ _ h => h) rfl rfl rfl
      exact Sat.newPt hd e _
  rcases ownS_cases hs' with ⟨rfl, rfl, rfl, rfl, hM⟩ | ⟨b, r, rfl, hcs, hcap, hM⟩
  · have hrun := run_append_nil (P := P) w t ty e inf u hu hi hzv p k kc news (by rw [hsz']; exact hnl) hnews hkp (by omega) (by rw [hby]; rw [Nat.zero_add] at hfit; omega)
    refine fin _ _ hrun ⟨_, _, by rw [Nat.zero_add], ?_⟩
    have hg := grownCap_ge w k 0 e
    have hh := newb (news ++ (Builtin.zeroCells u.cells (grownCap w k 0 e - k)).toList) hM ⟨_, by rw [List.nil_append]⟩ (by simp) (grownCap w k 0 e) ?_
    · have e1 : (news ++ (Builtin.zeroCells u.cells (grownCap w k 0 e - k)).toList).toArray = news.toArray ++ Builtin.zeroCells u.cells (grownCap w k 0 e - k) := by apply Array.ext'; simp
      rw [e1] at hh
      exact hh
    · simp [size_zeroCells, husz, hnl]
      rw [← Nat.add_mul]; congr 1; omega
  · have hb : w.heap[b]? = some (.cells (cs ++ r).toArray e (0, 0)) := Sat.block hM
    have hmc : m * sz ≤ cap * sz := by rw [← hcap, ← hcs]; simp
    have hmc' : m ≤ cap := Nat.le_of_mul_le_mul_right hmc hsz
    by_cases hroom : m + k ≤ cap
    · have hle : (m + k) * sz ≤ cap * sz := Nat.mul_le_mul_right _ hroom
      have hfit2 : m * sz + news.length ≤ (cs ++ r).length := by rw [hcap, hnl, ← Nat.add_mul]; exact hle
      have hrun := run_append_room (P := P) w t ty e inf hu hi b m cap (cs ++ r).toArray hb p k kc news (by rw [hsz']; exact hnl) hnews hall hroom (by rw [hsz']; simpa using hfit2)
      refine fin _ _ hrun ⟨_, _, rfl, ?_⟩
      rw [hsz']
      have hl2 : news.length ≤ r.length := by simp [hcs] at hfit2; omega
      have e1 : (((cs ++ r).toArray.toList.take (m * sz) ++ news ++ (cs ++ r).toArray.toList.drop (m * sz + news.length)) : List Value) = (cs ++ news) ++ r.drop news.length := by
        rw [← hcs]; simp [List.drop_append]
      rw [e1]
      refine ownS_mk (r := r.drop news.length) (by simp [hcs, hnl, Nat.add_mul]) ?_ ?_
      · rw [← hcap]; simp; omega
      · refine Sat.set (b := b) (o := .cells (cs ++ r).toArray e (0, 0)) hM ?_ ?_ rfl rfl rfl
        · rw [setRow_heap w b _ _ e _ hb]
        · intro q hq
          simp only [World.setRow, Array.getElem?_modify]
          rw [if_neg (by omega)]
    · have hcsr : ∀ j v, cs[j]? = some v → w.cell? ((⟨b, 0, none⟩ : Addr).add j) = some v := fun j v hj => by
        rw [add_mk, cell_of_block hb]
        have hlt := (List.getElem?_eq_some_iff.1 hj).1
        rw [Nat.zero_add, List.getElem?_append_left hlt]; exact hj
      have hrun := run_append_grow (P := P) w t ty e inf u hu hi hzv ⟨b, 0, none⟩ m cap cs (by rw [hsz']; exact hcs) hcsr p k kc news (by rw [hsz']; exact hnl) hnews (by omega) (by omega) (by rw [hby]; exact growslice_fits (by omega) hfit)
      refine fin _ _ hrun ⟨_, _, rfl, ?_⟩
      have hg := grownCap_ge w (m + k) cap e
      have hh := newb (cs ++ news ++ (Builtin.zeroCells u.cells (grownCap w (m + k) cap e - (m + k))).toList) (Sat.drop hM) ⟨_, rfl⟩ hcs (grownCap w (m + k) cap e) ?_
      · have e1 : (cs ++ news ++ (Builtin.zeroCells u.cells (grownCap w (m + k) cap e - (m + k))).toList).toArray = cs.toArray ++ news.toArray ++ Builtin.zeroCells u.cells (grownCap w (m + k) cap e - (m + k)) := by apply Array.ext'; simp
        rw [e1] at hh
        exact hh
      · simp [size_zeroCells, husz, hnl, hcs]
        rw [← Nat.add_assoc, ← Nat.add_mul, ← Nat.add_mul]; congr 1; omega

theorem op_append {t e sz by_ : Nat} {x y : Operand} {A : Option Addr} {p : Addr} {m cap k kc : Nat} {cs news z : List Value} {M : List As}
    (hk : sliceK P t = some (e, sz, by_)) (hz : zeroC P e = some z) (hx : ev fr x = some (.slice A m cap)) (hy : ev fr y = some (.slice (some p) k kc)) (hzs : z.length = sz) (hsz : 0 < sz) (hd : Nat.blt d n = true)
    (hr : Rem L (ownS e sz A m cap cs) M) (hn : Rds c L p news) (hnl : news.length = k * sz) (h1 : ones news = true) (hkp : 0 < k) (hfit : (m + k) * by_ ≤ 140737488355328) (h63 : m + k ≤ 9223372036854775807)
    (h : ∀ A' cap', Op P c n ops Q Ls fl rest ((d, .slice A' (m + k) cap') :: fr) (ownS e sz A' (m + k) cap' (cs ++ news) :: M)) :
    Op P c n ops Q Ls (2 :: fl) (⟨some d, .call { callee := .builtin .append, args := #[x, y], argTypes := #[t, t] }, ty, pos, aft, none⟩ :: rest) fr L :=
  op_e (ef_append hk hz hx hy hzs hsz hr hnl hn h1 hkp hfit h63) hd fun v L' ⟨A', cap', hv, hl⟩ => by subst hv; subst hl; exact h A' cap'

/-- A slice literal. -/
theorem ef_bslice {t e sz by_ k : Nat} {xs : List (Nat × Operand)} {vs : List (Nat × Value)} {z cs : List Value}
    (hk : sliceK P t = some (e, sz, by_)) (hz : zeroC P e = some z) (hx : evps fr xs = some vs) (hzs : z.length = sz) (hsm : Nat.ble (k * sz) 16777216 = true) (hpos : Nat.blt 0 (k * sz) = true)
    (hf : fillL ((List.range k).map fun i => (i * sz, sz)) (List.replicate k z).flatten vs = some cs) :
    Ef P c n fr L ⟨some d, .buildSlice t k xs.toArray, ty, pos, aft, none⟩ fun v L' => ∃ b, v = .slice (some ⟨b, 0, none⟩) k k ∧ L' = pt b e cs :: L := by
  intro X a w hfit hs N hN
  have hv := hfit.evps hx
  unfold sliceK at hk
  split at hk
  · rename_i e' hu
    cases hi : P.info? e' with
    | none => simp [hi] at hk
    | some inf =>
      simp [hi] at hk; obtain ⟨rfl, h2, h3⟩ := hk
      unfold zeroC at hz
      rw [hi] at hz
      cases hzz : inf.zero with
      | none => simp [hzz] at hz
      | some u =>
        simp [hzz] at hz
        have huz : u.cells = z.toArray := by rw [← hz]
        have hsm' : k * sz ≤ 16777216 := by simpa using hsm
        have hpos' : 0 < k * sz := blt_lt hpos
        have hzl : u.cells.size = sz := by rw [huz]; simpa using hzs
        have hrep : ((Array.range (k * inf.size)).map fun x => u.cells[x % u.cells.size]!) = (List.replicate k z).flatten.toArray := by
          have hszp : 0 < sz := Nat.pos_of_mul_pos_left hpos'
          apply Array.ext
          · simp [h2, hzs]
          · intro i h1 h2'
            simp only [Array.size_map, Array.size_range, h2] at h1
            simp only [Array.getElem_map, Array.getElem_range, List.getElem_toArray, hzl]
            have hmod : i % sz < sz := Nat.mod_lt _ hszp
            have key : ∀ (k i : Nat) (hi : i < (List.replicate k z).flatten.length), (List.replicate k z).flatten[i] = z[i % sz]'(by rw [hzs]; exact Nat.mod_lt _ hszp) := by
              intro k
              induction k with
              | zero => intro i hi; simp at hi
              | succ k ih =>
                intro i hi
                simp only [List.replicate_succ, List.flatten_cons] at hi ⊢
                by_cases hlt : i < sz
                · rw [List.getElem_append_left (by omega)]
                  congr 1; exact (Nat.mod_eq_of_lt hlt).symm
                · rw [List.getElem_append_right (by omega), ih]
                  congr 1
                  rw [hzs, ← Nat.mod_eq_sub_mod (by omega)]
            rw [key]
            rw [getElem!_pos u.cells (i % sz) (by omega)]
            simp [huz]
        have hrun := run_buildSlice (P := P) w t e' k vs.toArray cs.toArray inf u hu hi hzz (by rw [h2]; omega) (by rw [h2]; omega) (by
          rw [hrep]
          refine fillL_spec _ _ (fun i p hp => ?_) vs _ cs hf
          rw [List.getElem?_map] at hp
          cases hr : (List.range k)[i]? with
          | none => simp [hr] at hp
          | some j =>
            have hj : j = i := by
              have := (List.getElem?_eq_some_iff.1 hr)
              obtain ⟨_, e⟩ := this
              simpa using e.symm
            subst hj
            simp [hr] at hp
            rw [h2, ← hp])
        unfold Oper.wp
        have : (execOp a.eval ⟨some d, .buildSlice t k xs.toArray, ty, pos, aft, none⟩).run P w = .ok (.value (.slice (some ⟨w.heap.size, 0, none⟩) k k)) (w.alloc (.cells cs.toArray e')) := by
          simp only [execOp, List.map_toArray]
          rw [hv]
          simp [hrun, Sem.run]
        rw [this]
        exact hN _ _ _ ⟨_, rfl, rfl⟩ (Sat.newPt hs e' cs)
  · cases hk

theorem op_bslice {t e sz by_ k : Nat} {xs : List (Nat × Operand)} {vs : List (Nat × Value)} {z cs : List Value}
    (hk : sliceK P t = some (e, sz, by_)) (hz : zeroC P e = some z) (hx : evps fr xs = some vs) (hd : Nat.blt d n = true) (hzs : z.length = sz) (hsm : Nat.ble (k * sz) 16777216 = true) (hpos : Nat.blt 0 (k * sz) = true)
    (hf : fillL ((List.range k).map fun i => (i * sz, sz)) (List.replicate k z).flatten vs = some cs)
    (h : ∀ b, Op P c n ops Q Ls fl rest ((d, .slice (some ⟨b, 0, none⟩) k k) :: fr) (pt b e cs :: L)) :
    Op P c n ops Q Ls (2 :: fl) (⟨some d, .buildSlice t k xs.toArray, ty, pos, aft, none⟩ :: rest) fr L :=
  op_e (ef_bslice hk hz hx hzs hsm hpos hf) hd fun v L' ⟨b, hv, hl⟩ => by subst hv; subst hl; exact h b
theorem op_bslice4 {t e sz by_ k : Nat} {xs : List (Nat × Operand)} {vs : List (Nat × Value)} {z cs : List Value}
    (hk : sliceK P t = some (e, sz, by_)) (hz : zeroC P e = some z) (hx : evps fr xs = some vs) (hd : Nat.blt d n = true) (hzs : z.length = sz) (hsm : Nat.ble (k * sz) 16777216 = true) (hpos : Nat.blt 0 (k * sz) = true)
    (hf : fillL ((List.range k).map fun i => (i * sz, sz)) (List.replicate k z).flatten vs = some cs) (hS : ∀ w, Sat L c w → Sat Ls c w)
    (h : ∀ b, Op P c n ops Q Ls fl rest ((d, .slice (some ⟨b, 0, none⟩) k k) :: fr) (pt b e cs :: L)) :
    Op P c n ops Q Ls (4 :: fl) (⟨some d, .buildSlice t k xs.toArray, ty, pos, aft, none⟩ :: rest) fr L :=
  op_e4 (ef_bslice hk hz hx hzs hsm hpos hf) hd fun v L' ⟨b, hv, hl⟩ => by subst hv; subst hl; exact ⟨fun w hw => hS w hw.drop, h b⟩

theorem op_own {T sz m cap : Nat} {A : Option Addr} {cs : List Value} {l : List Oper} {cs' : List Value} (hr : Rem L (ownS T sz A m cap cs) M) (hm : 0 < m) (he : cs = cs')
    (h : ∀ b r, A = some ⟨b, 0, none⟩ → cs'.length = m * sz → (cs' ++ r).length = cap * sz → Op P c n ops Q Ls fl l fr (pt b T (cs' ++ r) :: M)) : Op P c n ops Q Ls fl l fr L := by
  subst he
  exact op_open (α := Nat × List Value) (p := fun x => A = some ⟨x.1, 0, none⟩ ∧ cs.length = m * sz ∧ (cs ++ x.2).length = cap * sz) (L' := fun x => pt x.1 T (cs ++ x.2) :: M)
    (fun w hs => let ⟨b, r, h1, h2, h3, h4⟩ := ownS_pos hm (Sat.rem hr hs); ⟨(b, r), ⟨h1, h2, h3⟩, h4⟩) fun x ⟨h1, h2, h3⟩ => h x.1 x.2 h1 h2 h3
theorem cd_own {T sz m cap : Nat} {A : Option Addr} {cs : List Value} {code : Code} {cs' : List Value} (hr : Rem L (ownS T sz A m cap cs) M) (hm : 0 < m) (he : cs = cs')
    (h : ∀ b r, A = some ⟨b, 0, none⟩ → cs'.length = m * sz → (cs' ++ r).length = cap * sz → Cd P c n code fr (pt b T (cs' ++ r) :: M) Q) : Cd P c n code fr L Q := by
  subst he
  exact cd_open (α := Nat × List Value) (p := fun x => A = some ⟨x.1, 0, none⟩ ∧ cs.length = m * sz ∧ (cs ++ x.2).length = cap * sz) (L' := fun x => pt x.1 T (cs ++ x.2) :: M)
    (fun w hs => let ⟨b, r, h1, h2, h3, h4⟩ := ownS_pos hm (Sat.rem hr hs); ⟨(b, r), ⟨h1, h2, h3⟩, h4⟩) fun x ⟨h1, h2, h3⟩ => h x.1 x.2 h1 h2 h3

/-! ### Rows of structs -/
def flat {α : Type} (enc : α → List Value) (es : List α) : List Value := es.flatMap enc
section
variable {α : Type} {enc : α → List Value} {sz : Nat} (hsz : ∀ e, (enc e).length = sz)
theorem flat_nil : flat enc ([] : List α) = [] := rfl
theorem flat_cons (e : α) (es : List α) : flat enc (e :: es) = enc e ++ flat enc es := by simp [flat]
theorem flat_append (a b : List α) : flat enc (a ++ b) = flat enc a ++ flat enc b := by simp [flat]
include hsz in
theorem flat_length (es : List α) : (flat enc es).length = es.length * sz := by
  induction es with
  | nil => simp [flat]
  | cons e es ih => rw [flat_cons, List.length_append, ih, hsz, List.length_cons, Nat.add_mul]; omega
include hsz in
theorem flat_take {es : List α} {i : Nat} {e : α} (r : List Value) (h : es[i]? = some e) : ((flat enc es ++ r).drop (i * sz)).take sz = enc e := by
  have hi : i < es.length := (List.getElem?_eq_some_iff.1 h).1
  have he : es = es.take i ++ e :: es.drop (i + 1) := by
    have := (List.getElem?_eq_some_iff.1 h).2
    rw [← this]; simp
  have hl : (flat enc (es.take i)).length = i * sz := by
    rw [flat_length hsz, List.length_take]; congr 1; omega
  rw [he, flat_append, flat_cons, List.append_assoc, ← hl, List.drop_left, ← hsz e, List.append_assoc, List.take_left]
include hsz in
theorem flat_take' {es : List α} {i o k : Nat} {e : α} (r : List Value) (h : es[i]? = some e) (ho : o + k ≤ sz) : ((flat enc es ++ r).drop (i * sz + o)).take k = ((enc e).drop o).take k := by
  have := flat_take hsz r h
  rw [← this, List.drop_take, List.drop_drop, List.take_take, Nat.min_eq_left (by omega)]
include hsz in
theorem flat_get {es : List α} {i j : Nat} {e : α} {v : Value} (r : List Value) (h : es[i]? = some e) (hj : j < sz) (hv : (enc e)[j]? = some v) : (flat enc es ++ r)[i * sz + j]? = some v := by
  have := flat_take hsz r h
  rw [← this, List.getElem?_take, if_pos hj, List.getElem?_drop] at hv
  exact hv
include hsz in
theorem flat_set {es : List α} {i j : Nat} {e e' : α} {v : Value} (r : List Value) (h : es[i]? = some e) (hj : j < sz) (he : (enc e).set j v = enc e') : (flat enc es ++ r).set (i * sz + j) v = flat enc (es.set i e') ++ r := by
  have hi : i < es.length := (List.getElem?_eq_some_iff.1 h).1
  have he0 : es = es.take i ++ e :: es.drop (i + 1) := by
    have := (List.getElem?_eq_some_iff.1 h).2
    rw [← this]; simp
  have hl : (flat enc (es.take i)).length = i * sz := by
    rw [flat_length hsz, List.length_take]; congr 1; omega
  have hs : es.set i e' = es.take i ++ e' :: es.drop (i + 1) := by rw [List.set_eq_take_append_cons_drop, if_pos hi]
  rw [hs]
  conv => lhs; rw [he0]
  simp only [flat_append, flat_cons, List.append_assoc]
  rw [List.set_append_right _ _ (by omega), List.set_append_left _ _ (by rw [hsz]; omega), hl, Nat.add_sub_cancel_left, he]
include hsz in
theorem flat_lt {es : List α} {i j : Nat} {e : α} (r : List Value) (h : es[i]? = some e) (hj : j < sz) : i * sz + j < (flat enc es ++ r).length := by
  have hi : i < es.length := (List.getElem?_eq_some_iff.1 h).1
  rw [List.length_append, flat_length hsz]
  have : (i + 1) * sz ≤ es.length * sz := Nat.mul_le_mul_right _ hi
  rw [Nat.add_mul] at this
  omega
include hsz in
theorem flat_le {es : List α} {i : Nat} (r : List Value) (h : i < es.length) : i * sz + sz ≤ (flat enc es ++ r).length := by
  rw [List.length_append, flat_length hsz]
  have : (i + 1) * sz ≤ es.length * sz := Nat.mul_le_mul_right _ h
  rw [Nat.add_mul] at this
  omega
include hsz in
theorem flat_splice {es : List α} {i : Nat} (e : α) (r : List Value) (h : i < es.length) : splice (flat enc es ++ r) (i * sz) (enc e) = flat enc (es.set i e) ++ r := by
  have he : es = es.take i ++ es[i] :: es.drop (i + 1) := by simp
  have hl : (flat enc (es.take i)).length = i * sz := by
    rw [flat_length hsz, List.length_take]; congr 1; omega
  have hs : es.set i e = es.take i ++ e :: es.drop (i + 1) := by rw [List.set_eq_take_append_cons_drop, if_pos h]
  rw [hs]
  conv => lhs; rw [he]
  simp only [flat_append, flat_cons, splice, List.append_assoc]
  rw [← hl, List.take_left, hsz e, ← hsz es[i], ← List.drop_drop, List.drop_left, List.drop_left]
end
end
end Go.SL
/- Further operations: rows that are made, and more. Over any program. -/
namespace Go.SL
section
variable {P : Program} {c : Cx} {n : Nat} {ops : Array Oper} {Q : Exit → Act → World → Prop} {fr : Fr} {L Ls M : List As} {d : Nat} {ty : TypeId} {pos : String} {aft : Array Edge} {fl : List Nat} {rest : List Oper}

theorem rep_get {z : List Value} {sz : Nat} (hzs : z.length = sz) (hsz : 0 < sz) : ∀ (k i : Nat) (hi : i < (List.replicate k z).flatten.length), (List.replicate k z).flatten[i] = z[i % sz]'(by rw [hzs]; exact Nat.mod_lt _ hsz) := by
  intro k
  induction k with
  | zero => intro i hi; simp at hi
  | succ k ih =>
    intro i hi
    simp only [List.replicate_succ, List.flatten_cons] at hi ⊢
    by_cases hlt : i < sz
    · rw [List.getElem_append_left (by omega)]
      congr 1; exact (Nat.mod_eq_of_lt hlt).symm
    · rw [List.getElem_append_right (by omega), ih]
      congr 1
      rw [hzs, ← Nat.mod_eq_sub_mod (by omega)]
theorem madeCells_rep {z : List Value} {sz : Nat} (hzs : z.length = sz) (hsz : 0 < sz) (k : Nat) : madeCells z.toArray (k * sz) = (List.replicate k z).flatten.toArray := by
  apply Array.ext
  · simp [madeCells, hzs]
  · intro i h1 h2
    simp only [madeCells, Array.size_map, Array.size_range] at h1
    simp only [madeCells, Array.getElem_map, Array.getElem_range, List.getElem_toArray]
    rw [rep_get hzs hsz]
    have : z.toArray.size = sz := by simpa using hzs
    rw [this, getElem!_pos z.toArray (i % sz) (by rw [this]; exact Nat.mod_lt _ hsz)]
    simp

/-- A row that is made, of so many elements. -/
theorem ef_mks {t e sz by_ k : Nat} {x y : Operand} {kx ky : IntKind} {i : Int} {z : List Value} (hk : sliceK P t = some (e, sz, by_)) (hz : zeroC P e = some z) (hx : ev fr x = some (.int kx i)) (hy : ev fr y = some (.int ky i)) (hi : i = (k : Int))
    (hzs : z.length = sz) (hsz : 0 < sz) (hc : k * sz ≤ 16777216) (hb : by_ * k ≤ 281474976710656) (h63 : k ≤ 9223372036854775807) :
    Ef P c n fr L ⟨some d, .makeSlice t x y, ty, pos, aft, none⟩ fun v L' => ∃ b, v = .slice (some ⟨b, 0, none⟩) k k ∧ L' = pt b e (List.replicate k z).flatten :: L := by
  subst hi
  intro X a w hfit hs N hN
  unfold sliceK at hk
  split at hk
  · rename_i e' hu
    cases hi : P.info? e' with
    | none => simp [hi] at hk
    | some inf =>
      simp [hi] at hk; obtain ⟨rfl, h2, h3⟩ := hk
      unfold zeroC at hz
      rw [hi] at hz
      cases hzz : inf.zero with
      | none => simp [hzz] at hz
      | some u =>
        simp [hzz] at hz
        have huz : u.cells = z.toArray := by rw [← hz]
        have hrun := run_makeSlice (P := P) w t e' inf u hu hi hzz kx ky (k : Int) (k : Int) (by omega) (by omega) (by rw [h2, Int.toNat_natCast]; exact hc) (by rw [h3, ← Int.natCast_mul]; exact Int.ofNat_le.2 hb) (by omega)
        unfold Oper.wp
        have : (execOp a.eval ⟨some d, .makeSlice t x y, ty, pos, aft, none⟩).run P w = .ok (.value (.slice (some ⟨w.heap.size, 0, none⟩) k k)) (w.alloc (.cells (List.replicate k z).flatten.toArray e')) := by
          rw [← madeCells_rep hzs hsz k]
          simp only [execOp, hfit.eval hx, hfit.eval hy]
          simp only [Int.toNat_natCast, h2, huz] at hrun
          simp [hrun, Sem.run]
        rw [this]
        exact hN _ _ _ ⟨_, rfl, rfl⟩ (Sat.newPt hs e' _)
  · cases hk
theorem op_mks {t e sz by_ k : Nat} {x y : Operand} {kx ky : IntKind} {i : Int} {z : List Value} (hk : sliceK P t = some (e, sz, by_)) (hz : zeroC P e = some z) (hx : ev fr x = some (.int kx i)) (hy : ev fr y = some (.int ky i)) (hzs : z.length = sz) (hd : Nat.blt d n = true) (hi : i = (k : Int))
    (hsz : 0 < sz) (hc : k * sz ≤ 16777216) (hb : by_ * k ≤ 281474976710656) (h63 : k ≤ 9223372036854775807)
    (h : ∀ b, Op P c n ops Q Ls fl rest ((d, .slice (some ⟨b, 0, none⟩) k k) :: fr) (pt b e (List.replicate k z).flatten :: L)) :
    Op P c n ops Q Ls (2 :: fl) (⟨some d, .makeSlice t x y, ty, pos, aft, none⟩ :: rest) fr L :=
  op_e (ef_mks hk hz hx hy hi hzs hsz hc hb h63) hd fun v L' ⟨b, hv, hl⟩ => by subst hv; subst hl; exact h b
theorem op_mks4 {t e sz by_ k : Nat} {x y : Operand} {kx ky : IntKind} {i : Int} {z : List Value} (hk : sliceK P t = some (e, sz, by_)) (hz : zeroC P e = some z) (hx : ev fr x = some (.int kx i)) (hy : ev fr y = some (.int ky i)) (hzs : z.length = sz) (hd : Nat.blt d n = true) (hi : i = (k : Int))
    (hsz : 0 < sz) (hc : k * sz ≤ 16777216) (hb : by_ * k ≤ 281474976710656) (h63 : k ≤ 9223372036854775807) (hS : ∀ w, Sat L c w → Sat Ls c w)
    (h : ∀ b, Op P c n ops Q Ls fl rest ((d, .slice (some ⟨b, 0, none⟩) k k) :: fr) (pt b e (List.replicate k z).flatten :: L)) :
    Op P c n ops Q Ls (4 :: fl) (⟨some d, .makeSlice t x y, ty, pos, aft, none⟩ :: rest) fr L :=
  op_e4 (ef_mks hk hz hx hy hi hzs hsz hc hb h63) hd fun v L' ⟨b, hv, hl⟩ => by subst hv; subst hl; exact ⟨fun w hw => hS w hw.drop, h b⟩
theorem flat_rep {α : Type} {enc : α → List Value} {a : α} {z : List Value} (h : enc a = z) (k : Nat) : (List.replicate k z).flatten = flat enc (List.replicate k a) := by
  subst h
  induction k with
  | zero => rfl
  | succ k ih => rw [List.replicate_succ, List.flatten_cons, ih, List.replicate_succ, flat_cons]
end
end Go.SL
/- Words without a sign, as naturals. Over any program. -/
namespace Go.SL
section
variable {P : Program} {n : Nat} {fr : Fr} {d : Option Tmp} {t u ty : TypeId} {pos : String} {aft : Array Edge} {g : Option (Nat × Bool)}
theorem wrapMod {k : IntKind} (hs : k.signed = false) (m : Nat) : k.wrap (m : Int) = ((m % 2 ^ k.bits : Nat) : Int) := by
  simp only [IntKind.wrap, hs, Bool.false_and, Bool.false_eq_true, if_false]
  simp
theorem wrapN {k : IntKind} (hs : k.signed = false) {m : Nat} (h : m < 2 ^ k.bits) : k.wrap (m : Int) = (m : Int) := by
  rw [wrapMod hs, Nat.mod_eq_of_lt h]
theorem bvN {n m : Nat} (h : m < 2 ^ n) : (BitVec.ofInt n (m : Int)).toNat = m := by
  rw [BitVec.ofInt_natCast, BitVec.toNat_ofNat]; exact Nat.mod_eq_of_lt h
theorem y_andN {k : IntKind} {x y : Operand} {i j : Int} {a b : Nat} (hs : k.signed = false) (hx : ev fr x = some (.int k i)) (hy : ev fr y = some (.int k j)) (hi : i = (a : Int)) (hj : j = (b : Int)) (ha : a < 2 ^ k.bits) (hb : b < 2 ^ k.bits) :
    Yf P n fr ⟨d, .binOp .and t x y u, ty, pos, aft, g⟩ (.int k ((a &&& b : Nat) : Int)) := by
  subst hi; subst hj
  exact y_and hx hy (by rw [BitVec.toNat_and, bvN ha, bvN hb]; exact wrapN hs (Nat.and_lt_two_pow _ hb))
theorem y_orN {k : IntKind} {x y : Operand} {i j : Int} {a b : Nat} (hs : k.signed = false) (hx : ev fr x = some (.int k i)) (hy : ev fr y = some (.int k j)) (hi : i = (a : Int)) (hj : j = (b : Int)) (ha : a < 2 ^ k.bits) (hb : b < 2 ^ k.bits) :
    Yf P n fr ⟨d, .binOp .or t x y u, ty, pos, aft, g⟩ (.int k ((a ||| b : Nat) : Int)) := by
  subst hi; subst hj
  exact y_or hx hy (by rw [BitVec.toNat_or, bvN ha, bvN hb]; exact wrapN hs (Nat.or_lt_two_pow ha hb))
theorem y_andnotN {k : IntKind} {x y : Operand} {i j : Int} {a b : Nat} (hs : k.signed = false) (hx : ev fr x = some (.int k i)) (hy : ev fr y = some (.int k j)) (hi : i = (a : Int)) (hj : j = (b : Int)) (ha : a < 2 ^ k.bits) (hb : b < 2 ^ k.bits) :
    Yf P n fr ⟨d, .binOp .andNot t x y u, ty, pos, aft, g⟩ (.int k ((a &&& (2 ^ k.bits - 1 - b) : Nat) : Int)) := by
  subst hi; subst hj
  exact y_andnot hx hy (by rw [BitVec.toNat_and, BitVec.toNat_not, bvN ha, bvN hb]; exact wrapN hs (Nat.lt_of_le_of_lt Nat.and_le_left ha))
theorem shrN_eq {k : IntKind} {a b : Nat} (hb : b ≤ k.bits) : (a : Int).fdiv (2 ^ min ((b : Nat) : Int).toNat k.bits) = ((a >>> b : Nat) : Int) := by
  rw [Int.toNat_natCast, Nat.min_eq_left hb, Nat.shiftRight_eq_div_pow]
  rw [Int.fdiv_eq_ediv_of_nonneg _ (by exact Int.le_of_lt (Int.pow_pos (by decide)))]
  simp
theorem y_shrN {k kk : IntKind} {x y : Operand} {i j : Int} {a b : Nat} (hx : ev fr x = some (.int k i)) (hy : ev fr y = some (.int kk j)) (hi : i = (a : Int)) (hj : j = (b : Int)) (hb : b ≤ k.bits) :
    Yf P n fr ⟨d, .binOp .shr t x y u, ty, pos, aft, g⟩ (.int k ((a >>> b : Nat) : Int)) := by
  subst hi; subst hj
  exact y_shr hx hy (by omega) (shrN_eq hb)
theorem y_shlN {k kk : IntKind} {x y : Operand} {i j : Int} {a b : Nat} (hs : k.signed = false) (hx : ev fr x = some (.int k i)) (hy : ev fr y = some (.int kk j)) (hi : i = (a : Int)) (hj : j = (b : Int)) (hb : b ≤ k.bits) :
    Yf P n fr ⟨d, .binOp .shl t x y u, ty, pos, aft, g⟩ (.int k (((a <<< b) % 2 ^ k.bits : Nat) : Int)) := by
  subst hi; subst hj
  refine y_shl hx hy (by omega) ?_
  rw [Int.toNat_natCast, Nat.min_eq_left hb, Nat.shiftLeft_eq]
  have : ((a : Int) * 2 ^ b) = ((a * 2 ^ b : Nat) : Int) := by simp
  rw [this, wrapMod hs]
theorem y_neg {k : IntKind} {x : Operand} {i r : Int} (hx : ev fr x = some (.int k i)) (hr : k.wrap (-i) = r) : Yf P n fr ⟨d, .unOp .neg t x, ty, pos, aft, g⟩ (.int k r) := fun A w hf => by
  have e0 : 0 - i = -i := Int.zero_sub i
  simp [execOp, hf.eval hx, Op.unary, Op.intArith, e0, hr, Sem.run]

theorem y_max {k k' : IntKind} {x y : Operand} {a b r : Int} {ats : Array TypeId} (hx : ev fr x = some (.int k a)) (hy : ev fr y = some (.int k' b)) (hr : (if b > a then b else a) = r) :
    Yf P n fr ⟨d, .call { callee := .builtin .max, args := #[x, y], argTypes := ats }, ty, pos, aft, g⟩ (.int k r) := fun A w hf => by
  subst hr
  simp [execOp, resolve, invoke, builtin, hf.eval hx, hf.eval hy, run_max_int2, Sem.run]
theorem y_min {k k' : IntKind} {x y : Operand} {a b r : Int} {ats : Array TypeId} (hx : ev fr x = some (.int k a)) (hy : ev fr y = some (.int k' b)) (hr : (if b < a then b else a) = r) :
    Yf P n fr ⟨d, .call { callee := .builtin .min, args := #[x, y], argTypes := ats }, ty, pos, aft, g⟩ (.int k r) := fun A w hf => by
  subst hr
  simp [execOp, resolve, invoke, builtin, hf.eval hx, hf.eval hy, run_min_int2, Sem.run]

theorem y_low32 {x y : Operand} {a : Nat} (hx : ev fr x = some (.int .u64 (a : Int))) (hy : ev fr y = some (.int .u64 4294967295)) (ha : a < 18446744073709551616) :
    Yf P n fr ⟨d, .binOp .and t x y u, ty, pos, aft, g⟩ (.int .u64 ((a % 4294967296 : Nat) : Int)) := by
  have := y_andN (P := P) (n := n) (d := d) (t := t) (u := u) (ty := ty) (pos := pos) (aft := aft) (g := g) (k := .u64) (a := a) (b := 4294967295) rfl hx hy rfl rfl ha (by decide)
  rwa [show (4294967295 : Nat) = 2 ^ 32 - 1 from rfl, Nat.and_two_pow_sub_one_eq_mod] at this
theorem y_hi32 {x y : Operand} {kk : IntKind} {a : Nat} (hx : ev fr x = some (.int .u64 (a : Int))) (hy : ev fr y = some (.int kk 32)) :
    Yf P n fr ⟨d, .binOp .shr t x y u, ty, pos, aft, g⟩ (.int .u64 ((a / 4294967296 : Nat) : Int)) := by
  have := y_shrN (P := P) (n := n) (d := d) (t := t) (u := u) (ty := ty) (pos := pos) (aft := aft) (g := g) (k := .u64) (a := a) (b := 32) hx hy rfl rfl (by decide)
  rwa [Nat.shiftRight_eq_div_pow] at this
/-- A call that only yields a value. -/
theorem op_ye {c : Cx} {ops : Array Oper} {Q : Exit → Act → World → Prop} {L Ls : List As} {fl : List Nat} {rest : List Oper} {dd : Nat} {op : Go.Op} {v : Value} (hd : Nat.blt dd n = true) (hy : Yf P n fr ⟨some dd, op, ty, pos, aft, none⟩ v)
    (h : Op P c n ops Q Ls fl rest ((dd, v) :: fr) L) : Op P c n ops Q Ls (2 :: fl) (⟨some dd, op, ty, pos, aft, none⟩ :: rest) fr L :=
  op_e (K := fun u L' => u = v ∧ L' = L) (fun X a w hf hs N hN => by
    unfold Oper.wp
    rw [hy a w hf]
    exact hN v L w ⟨rfl, rfl⟩ hs) hd fun u L' ⟨h1, h2⟩ => by subst h1; subst h2; exact h
/-- A function without a body, whose entry is known. -/
def externIs (P : Program) (f : FuncId) (nm : String) : Bool := match P.funcs[f]? with
  | some fn => fn.name == nm && (fn.body.isNone && (Extern.findNext fn).isNone)
  | none => false
theorem y_add64 {f : FuncId} {x y z : Operand} {ats : Array TypeId} {a b : Nat} (hE : externIs P f "math/bits.Add64" = true) (hx : ev fr x = some (.int .u64 (a : Int))) (hy : ev fr y = some (.int .u64 (b : Int))) (hz : ev fr z = some (.int .u64 0)) :
    Yf P n fr ⟨d, .call { callee := .value (.func f), args := #[x, y, z], argTypes := ats }, ty, pos, aft, g⟩ (.tuple #[.int .u64 (((a + b) % 18446744073709551616 : Nat) : Int), .int .u64 (((a + b) / 18446744073709551616 : Nat) : Int)]) := fun A w hf => by
  unfold externIs at hE
  cases hfn : P.funcs[f]? with
  | none => simp [hfn] at hE
  | some fn =>
    simp only [hfn, Bool.and_eq_true, beq_iff_eq] at hE
    obtain ⟨hn, hb, hnx⟩ := hE
    have hnx : Extern.findNext fn = none := by simpa using hnx
    have hrun : (callFunc f #[.int .u64 (a : Int), .int .u64 (b : Int), .int .u64 0]).run P w = .ok (.value (.tuple #[.int .u64 (((a + b) % 18446744073709551616 : Nat) : Int), .int .u64 (((a + b) / 18446744073709551616 : Nat) : Int)])) w := by
      rw [run_callFunc_extern hfn (by rw [hn]; decide) hb hnx (e := add64Entry) (by unfold Extern.find; rw [hn]; rfl)]
      have := run_add64 (P := P) (a : Int) (b : Int) 0 (by omega) (by omega) (by omega) (by omega) w
      simp [this, Sem.run]
    have hv : [x, y, z].map A.eval = [.int .u64 (a : Int), .int .u64 (b : Int), .int .u64 0] := by simp [hf.eval hx, hf.eval hy, hf.eval hz]
    unfold execOp
    simp only [resolve, Act.eval, Deferred.ofValue, Sem.run_bind, Sem.run_pure, Result.andThen_ok, invoke, List.map_toArray, hv, Array.append_empty, Array.empty_append]
    exact hrun

/-- A function value that catches one thing. -/
theorem y_mkf {fn : Fn} {x : Operand} {v : Value} (hx : ev fr x = some v) : Yf P n fr ⟨d, .makeFunc fn #[] #[x], ty, pos, aft, g⟩ (.func fn #[] #[v]) := fun A w hf => by
  simp [execOp, Instr.makeFunc, hf.eval hx, Sem.run]

/-- Which of 64 numbers a word has. -/
structure Bits (w : Nat) (D : List Nat) : Prop where
  lt : w < 2 ^ 64
  bit : ∀ i, i < 64 → w.testBit i = decide (i ∈ D)
  nd : D.Nodup
  le : ∀ i ∈ D, i < 64
theorem Bits.nil : Bits 0 [] := ⟨by decide, fun i _ => by simp, List.nodup_nil, fun _ h => by cases h⟩
theorem Bits.has {w : Nat} {D : List Nat} (h : Bits w D) {i : Nat} (hi : i < 64) : (((w >>> i &&& 1 : Nat) : Int) == 1) = decide (i ∈ D) := by
  rw [← h.bit i hi, Nat.and_one_is_mod, Nat.testBit_eq_decide_div_mod_eq, Nat.shiftRight_eq_div_pow]
  by_cases e : w / 2 ^ i % 2 = 1
  · simp [e]
  · have : w / 2 ^ i % 2 = 0 := by omega
    simp [this]
theorem Bits.put {w : Nat} {D : List Nat} (h : Bits w D) {i : Nat} (hi : i < 64) (hn : i ∉ D) : Bits (w ||| (1 <<< i) % 2 ^ 64) (i :: D) := by
  have e : (1 <<< i) % 2 ^ 64 = 2 ^ i := by
    rw [Nat.shiftLeft_eq, Nat.one_mul]
    exact Nat.mod_eq_of_lt (Nat.pow_lt_pow_of_lt (by decide) hi)
  have hlt : 2 ^ i < 2 ^ 64 := Nat.pow_lt_pow_of_lt (by decide) hi
  rw [e]
  refine ⟨Nat.or_lt_two_pow h.lt hlt, fun j hj => ?_, List.nodup_cons.2 ⟨hn, h.nd⟩, fun j hj => ?_⟩
  · rw [Nat.testBit_or, h.bit j hj, Nat.testBit_two_pow]
    by_cases e : i = j <;> simp [e, eq_comm]
  · rcases List.mem_cons.1 hj with rfl | hj
    · exact hi
    · exact h.le j hj
theorem Bits.drop {w : Nat} {D : List Nat} (h : Bits w D) {i : Nat} (hi : i < 64) : Bits (w &&& (2 ^ 64 - 1 - (1 <<< i) % 2 ^ 64)) (D.erase i) := by
  have e : (1 <<< i) % 2 ^ 64 = 2 ^ i := by
    rw [Nat.shiftLeft_eq, Nat.one_mul]
    exact Nat.mod_eq_of_lt (Nat.pow_lt_pow_of_lt (by decide) hi)
  have hlt : 2 ^ i < 2 ^ 64 := Nat.pow_lt_pow_of_lt (by decide) hi
  rw [e]
  refine ⟨Nat.lt_of_le_of_lt Nat.and_le_left h.lt, fun j hj => ?_, h.nd.erase i, fun j hj => h.le j (List.mem_of_mem_erase hj)⟩
  have e2 : 2 ^ 64 - 1 - 2 ^ i = 2 ^ 64 - (2 ^ i + 1) := by omega
  rw [Nat.testBit_and, h.bit j hj, e2, Nat.testBit_two_pow_sub_succ hlt, Nat.testBit_two_pow]
  simp only [h.nd.mem_erase_iff, hj, decide_true, Bool.true_and]
  by_cases e : i = j <;> by_cases m : j ∈ D <;> simp [e, m, eq_comm]
end
end Go.SL
/- Strings, as lists of bytes: places, parts, sums, comparisons; bytes made a string. Over any program. -/
namespace Go.SL
/-- A string's value. -/
abbrev sv (l : List UInt8) : Value := .string ⟨l.toArray⟩
/-- The byte at a place; 0 beyond. -/
def bt (l : List UInt8) (j : Nat) : Nat := (l.getD j 0).toNat
theorem sv_size (l : List UInt8) : (⟨l.toArray⟩ : ByteArray).size = l.length := rfl
theorem bt_lt (l : List UInt8) (j : Nat) : bt l j < 256 := UInt8.toNat_lt _
theorem bt_append_left {l m : List UInt8} {j : Nat} (h : j < l.length) : bt (l ++ m) j = bt l j := by
  simp [bt, List.getD_eq_getElem?_getD, List.getElem?_append_left h]
theorem bt_append_right {l m : List UInt8} {j : Nat} (h : l.length ≤ j) : bt (l ++ m) j = bt m (j - l.length) := by
  simp [bt, List.getD_eq_getElem?_getD, List.getElem?_append_right h]
section
variable {P : Program} {n : Nat} {fr : Fr} {d : Option Tmp} {t u ty : TypeId} {pos : String} {aft : Array Edge} {g : Option (Nat × Bool)}
theorem wu16 {z : Int} (h1 : 0 ≤ z) (h2 : z ≤ 65535) : IntKind.u16.wrap z = z := by
  simp only [IntKind.wrap, IntKind.signed, IntKind.bits]; simp; omega
/-- Shifts, masks and sums of words without a sign, by their results. -/
theorem y_shlr {k kk : IntKind} {x y : Operand} {i j : Int} {a b : Nat} (r : Nat) (hs : k.signed = false) (hx : ev fr x = some (.int k i)) (hy : ev fr y = some (.int kk j)) (hi : i = (a : Int)) (hj : j = (b : Int)) (hb : b ≤ k.bits) (hr : a * 2 ^ b = r) (hlt : r < 2 ^ k.bits) :
    Yf P n fr ⟨d, .binOp .shl t x y u, ty, pos, aft, g⟩ (.int k (r : Int)) := by
  have := y_shlN (P := P) (n := n) (d := d) (t := t) (u := u) (ty := ty) (pos := pos) (aft := aft) (g := g) hs hx hy hi hj hb
  rwa [Nat.shiftLeft_eq, hr, Nat.mod_eq_of_lt hlt] at this
theorem y_shrr {k kk : IntKind} {x y : Operand} {i j : Int} {a b : Nat} (r : Nat) (hx : ev fr x = some (.int k i)) (hy : ev fr y = some (.int kk j)) (hi : i = (a : Int)) (hj : j = (b : Int)) (hb : b ≤ k.bits) (hr : a / 2 ^ b = r) :
    Yf P n fr ⟨d, .binOp .shr t x y u, ty, pos, aft, g⟩ (.int k (r : Int)) := by
  have := y_shrN (P := P) (n := n) (d := d) (t := t) (u := u) (ty := ty) (pos := pos) (aft := aft) (g := g) hx hy hi hj hb
  rwa [Nat.shiftRight_eq_div_pow, hr] at this
theorem y_maskr {k : IntKind} {x y : Operand} {i j : Int} {a m : Nat} (r : Nat) (hs : k.signed = false) (hx : ev fr x = some (.int k i)) (hy : ev fr y = some (.int k j)) (hi : i = (a : Int)) (hj : j = ((2 ^ m - 1 : Nat) : Int)) (ha : a < 2 ^ k.bits) (hm : m ≤ k.bits) (hr : a % 2 ^ m = r) :
    Yf P n fr ⟨d, .binOp .and t x y u, ty, pos, aft, g⟩ (.int k (r : Int)) := by
  have hb : 2 ^ m - 1 < 2 ^ k.bits := by
    have h1 : 2 ^ m ≤ 2 ^ k.bits := Nat.pow_le_pow_right (by decide) hm
    have h2 : 0 < 2 ^ m := Nat.pow_pos (by decide)
    omega
  have := y_andN (P := P) (n := n) (d := d) (t := t) (u := u) (ty := ty) (pos := pos) (aft := aft) (g := g) hs hx hy hi hj ha hb
  rwa [Nat.and_two_pow_sub_one_eq_mod, hr] at this
theorem y_addr {k : IntKind} {x y : Operand} {i j : Int} {a b : Nat} (r : Nat) (hs : k.signed = false) (hx : ev fr x = some (.int k i)) (hy : ev fr y = some (.int k j)) (hi : i = (a : Int)) (hj : j = (b : Int)) (hr : a + b = r) (hlt : r < 2 ^ k.bits) :
    Yf P n fr ⟨d, .binOp .add t x y u, ty, pos, aft, g⟩ (.int k (r : Int)) := by
  subst hi hj hr
  refine y_add hx hy ?_
  have : ((a : Int) + (b : Int)) = ((a + b : Nat) : Int) := by simp
  rw [this]; exact wrapN hs hlt
theorem y_subr {k : IntKind} {x y : Operand} {i j : Int} {a b : Nat} (r : Nat) (hs : k.signed = false) (hx : ev fr x = some (.int k i)) (hy : ev fr y = some (.int k j)) (hi : i = (a : Int)) (hj : j = (b : Int)) (hr : a = r + b) (hlt : a < 2 ^ k.bits) :
    Yf P n fr ⟨d, .binOp .sub t x y u, ty, pos, aft, g⟩ (.int k (r : Int)) := by
  subst hi hj
  refine y_sub hx hy ?_
  have : ((a : Int) - (b : Int)) = ((r : Nat) : Int) := by omega
  rw [this]; exact wrapN hs (by omega)
theorem y_convr {k j : IntKind} {s t : TypeId} {x : Operand} {i : Int} {a : Nat} {D : TypeDesc} (r : Nat) (hsj : j.signed = false) (hs : P.underlying s = some D) (ht : P.underlying t = some (.int j)) (hx : ev fr x = some (.int k i)) (hi : i = (a : Int)) (hr : a % 2 ^ j.bits = r) :
    Yf P n fr ⟨d, .convert s t x, ty, pos, aft, g⟩ (.int j (r : Int)) := by
  subst hi hr
  exact y_conv hs ht hx (wrapMod hsj a)
theorem y_slen {x : Operand} {u : TypeId} {t : TypeId} {l : List UInt8} (hu : P.underlying u = some .string) (hx : ev fr x = some (sv l)) :
    Yf P n fr ⟨d, .call { callee := .builtin .len, args := #[x], argTypes := #[u] }, t, pos, aft, g⟩ (.int .i64 (l.length : Nat)) := by
  have := y_lens (P := P) (n := n) (d := d) (pos := pos) (aft := aft) (g := g) (t := t) hu hx
  simpa [ByteArray.size] using this
theorem y_sidx {x y : Operand} {l : List UInt8} {kd : IntKind} {i : Int} {j : Nat} (hu : P.underlying t = some .string) (hx : ev fr x = some (sv l)) (hy : ev fr y = some (.int kd i)) (hj : i = (j : Int)) (hlt : j < l.length) :
    Yf P n fr ⟨d, .index t x y, ty, pos, aft, g⟩ (.int .u8 (bt l j : Nat)) := fun a w hf => by
  subst hj
  have h1 : (⟨l.toArray⟩ : ByteArray)[j]? = some (l[j]) := by
    rw [ByteArray.getElem?_lt' _ _ (by simpa [ByteArray.size] using hlt)]
    rfl
  have h2 : bt l j = l[j].toNat := by simp [bt, List.getD_eq_getElem?_getD, List.getElem?_eq_getElem hlt]
  simp [execOp, hf.eval hx, hf.eval hy, Instr.index, asIntOf, run_underlying hu, h1, h2, Sem.run]
theorem y_cat {x y : Operand} {l m : List UInt8} (hx : ev fr x = some (sv l)) (hy : ev fr y = some (sv m)) (hs : l.length + m.length ≤ 9223372036854775807) :
    Yf P n fr ⟨d, .binOp .add t x y u, ty, pos, aft, g⟩ (sv (l ++ m)) := fun a w hf => by
  have h1 := run_string_add_sum (P := P) w ⟨l.toArray⟩ ⟨m.toArray⟩ (by simpa [ByteArray.size] using hs)
  rw [ByteArray.mk_append_mk] at h1
  simp [execOp, hf.eval hx, hf.eval hy, eqGuard, binOp, h1, Sem.run]
theorem toList_mk (l : List UInt8) : (⟨l.toArray⟩ : ByteArray).toList = l := by rw [ByteArray.toList_eq]
theorem y_seq {x y : Operand} {l m : List UInt8} {r : Bool} (hx : ev fr x = some (sv l)) (hy : ev fr y = some (sv m)) (hr : (l == m) = r) :
    Yf P n fr ⟨d, .binOp .eql t x y u, ty, pos, aft, g⟩ (.bool r) := fun a w hf => by
  simp [execOp, hf.eval hx, hf.eval hy, eqGuard, binOp, Op.stringOp, toList_mk, hr, Sem.run]
theorem y_sne {x y : Operand} {l m : List UInt8} {r : Bool} (hx : ev fr x = some (sv l)) (hy : ev fr y = some (sv m)) (hr : (l != m) = r) :
    Yf P n fr ⟨d, .binOp .neq t x y u, ty, pos, aft, g⟩ (.bool r) := fun a w hf => by
  have : (!(l == m)) = r := hr
  simp [execOp, hf.eval hx, hf.eval hy, eqGuard, binOp, Op.stringOp, toList_mk, this, Sem.run]
/-- s[i:] -/
theorem y_sslo {x y : Operand} {l : List UInt8} {kd : IntKind} {i : Int} {j : Nat} (hu : P.underlying t = some .string) (hx : ev fr x = some (sv l)) (hy : ev fr y = some (.int kd i)) (hj : i = (j : Int)) (hle : j ≤ l.length) :
    Yf P n fr ⟨d, .slice t x (some y) none none, ty, pos, aft, g⟩ (sv (l.drop j)) := fun a w hf => by
  subst hj
  have e : (⟨l.toArray⟩ : ByteArray).extract j l.length = ⟨(l.drop j).toArray⟩ := by
    rw [ByteArray.extract_mk, List.take_of_length_le (by simp)]
  simp [execOp, hf.eval hx, hf.eval hy, Instr.sliceAt, Instr.slice, Instr.sliceBounds, Instr.sliceBound, asIntOf, run_underlying hu, sv_size, hle, e, Sem.run]
/-- s[:i] -/
theorem y_sshi {x y : Operand} {l : List UInt8} {kd : IntKind} {i : Int} {j : Nat} (hu : P.underlying t = some .string) (hx : ev fr x = some (sv l)) (hy : ev fr y = some (.int kd i)) (hj : i = (j : Int)) (hle : j ≤ l.length) :
    Yf P n fr ⟨d, .slice t x none (some y) none, ty, pos, aft, g⟩ (sv (l.take j)) := fun a w hf => by
  subst hj
  have e : (⟨l.toArray⟩ : ByteArray).extract 0 j = ⟨(l.take j).toArray⟩ := by
    rw [ByteArray.extract_mk, List.drop_zero, Nat.sub_zero]
  simp [execOp, hf.eval hx, hf.eval hy, Instr.sliceAt, Instr.slice, Instr.sliceBounds, Instr.sliceBound, asIntOf, run_underlying hu, sv_size, hle, e, Sem.run]
/-- s[i:k] -/
theorem y_ssmid {x y z : Operand} {l : List UInt8} {kd ke : IntKind} {i i' : Int} {j k : Nat} (hu : P.underlying t = some .string) (hx : ev fr x = some (sv l)) (hy : ev fr y = some (.int kd i)) (hz : ev fr z = some (.int ke i')) (hj : i = (j : Int)) (hk : i' = (k : Int)) (hjk : j ≤ k) (hle : k ≤ l.length) :
    Yf P n fr ⟨d, .slice t x (some y) (some z) none, ty, pos, aft, g⟩ (sv ((l.drop j).take (k - j))) := fun a w hf => by
  subst hj hk
  have e : (⟨l.toArray⟩ : ByteArray).extract j k = ⟨((l.drop j).take (k - j)).toArray⟩ := ByteArray.extract_mk ..
  simp [execOp, hf.eval hx, hf.eval hy, hf.eval hz, Instr.sliceAt, Instr.slice, Instr.sliceBounds, Instr.sliceBound, asIntOf, run_underlying hu, sv_size, hle, hjk, e, Sem.run]
end
section
variable {P : Program} {c : Cx} {n : Nat} {ops : Array Oper} {Q : Exit → Act → World → Prop} {fr : Fr} {L Ls M : List As} {d : Nat} {s t ty : TypeId} {pos : String} {aft : Array Edge} {fl : List Nat} {rest : List Oper}
/-- A byte's cell. -/
abbrev bc (b : UInt8) : List Value := [.int .u8 (b.toNat : Nat)]
theorem bc1 (b : UInt8) : (bc b).length = 1 := rfl
theorem flat_bc (l : List UInt8) : flat bc l = l.map fun b => .int .u8 (b.toNat : Int) := by
  induction l with
  | nil => rfl
  | cons b l ih => rw [flat_cons, ih]; rfl
/-- Bytes made a string, whatever their row is. -/
theorem y_b2s {dd : Option Tmp} {g : Option (Nat × Bool)} {x : Operand} {e sz : TypeId} {by_ : Nat} {A : Option Addr} {m cap : Nat} {l : List UInt8} (hs : sliceK P s = some (e, 1, by_)) (he : P.underlying e = some (.int .u8)) (hd : P.underlying t = some .string)
    (hx : ev fr x = some (.slice A m cap)) (hr : Rem L (ownS e 1 A m cap (flat bc l)) M) (hm : l.length = m) : Yl P c n fr L ⟨dd, .convert s t x, ty, pos, aft, g⟩ (sv l) := fun a w hf hw => by
  subst hm
  have hu : P.underlying s = some (.slice e) := by
    unfold sliceK at hs
    split at hs
    · rename_i e' hu
      cases hi : P.info? e' with
      | none => simp [hi] at hs
      | some inf => simp [hi] at hs; rw [hu, hs.1]
    · cases hs
  have hw' := Sat.rem hr hw
  by_cases h0 : l = []
  · subst h0
    rcases ownS_cases hw' with ⟨rfl, _, _, _, hM⟩ | ⟨b, r, rfl, hcs, hcap, hM⟩
    · have := run_convert_bytes_string (P := P) w s t e none 0 cap hu he hd
      simp only [execOp, hf.eval hx]
      simp only [List.length_nil, Sem.run_bind, this]
      simp [Conv.bytesToString, Sem.run]
      rfl
    · have := run_convert_bytes_back (P := P) w s t e ⟨b, 0, none⟩ cap [] hu he hd (fun j hj => by simp at hj)
      simp only [execOp, hf.eval hx]
      simp only [Sem.run_bind, this]
      simp [Sem.run]
  · obtain ⟨b, r, rfl, hcs, hcap, hM⟩ := ownS_pos (by cases l with | nil => exact absurd rfl h0 | cons => simp) hw'
    have hb : w.heap[b]? = some (.cells (flat bc l ++ r).toArray e (0, 0)) := Sat.block hM
    have := run_convert_bytes_back (P := P) w s t e ⟨b, 0, none⟩ cap l hu he hd (fun j hj => by
      rw [add_mk, cell_of_block hb, Nat.zero_add, flat_bc, List.getElem?_append_left (by simpa using hj)]
      simp [List.getElem?_eq_getElem hj])
    simp only [execOp, hf.eval hx]
    simp [this, Sem.run]
theorem op_b2s {x : Operand} {e : TypeId} {by_ : Nat} {A : Option Addr} {m cap : Nat} {l : List UInt8} (hs : sliceK P s = some (e, 1, by_)) (he : P.underlying e = some (.int .u8)) (ht : P.underlying t = some .string)
    (hx : ev fr x = some (.slice A m cap)) (hd : Nat.blt d n = true) (hr : Rem L (ownS e 1 A m cap (flat bc l)) M) (hm : l.length = m) (h : Op P c n ops Q Ls fl rest ((d, sv l) :: fr) L) :
    Op P c n ops Q Ls (1 :: fl) (⟨some d, .convert s t x, ty, pos, aft, none⟩ :: rest) fr L := op_r (y_b2s (sz := 0) hs he ht hx hr hm) hd h
/-- A string's bytes copied into a row of as many. -/
theorem ef_copys {dd : Option Tmp} {g : Option (Nat × Bool)} {ts e by_ b m cap : Nat} {x y : Operand} {T : TypeId} {l : List UInt8} {old : List Value} (hk : sliceK P t = some (e, 1, by_)) (hx : ev fr x = some (.slice (some ⟨b, 0, none⟩) m cap)) (hy : ev fr y = some (sv l))
    (hr : Rem L (pt b T old) M) (hm : m = l.length) (ho : old.length = l.length) :
    Ef P c n fr L ⟨dd, .call { callee := .builtin .copy, args := #[x, y], argTypes := #[t, ts] }, ty, pos, aft, g⟩ fun v L' => v = .int .i64 (l.length : Nat) ∧ L' = pt b T (flat bc l ++ []) :: M := fun X a w hf hs N hN => by
  subst hm
  have hti : ∃ inf, P.underlying t = some (.slice e) ∧ P.info? e = some inf ∧ inf.size = 1 := by
    unfold sliceK at hk
    split at hk
    · rename_i e' hu
      cases hi : P.info? e' with
      | none => simp [hi] at hk
      | some inf => simp [hi] at hk; obtain ⟨rfl, h2, h3⟩ := hk; exact ⟨inf, hu, hi, h2⟩
    · cases hk
  obtain ⟨inf, hu, hi, hsz⟩ := hti
  have hfl : (flat bc l).length = l.length := by rw [flat_length bc1, Nat.mul_one]
  have hon : ones (flat bc l) = true := by
    rw [flat_bc]; simp [ones, Value.oneCell']
  obtain ⟨w', hw, hsat⟩ := Sat.storeRow (P := P) (b := b) (i := 0) (cs := flat bc l) hr (by omega) hon hs
  have hfc := firstCells_string (P := P) ⟨l.toArray⟩ w
  have hbl : byteCells ⟨l.toArray⟩ = flat bc l := by rw [flat_bc]; rfl
  rw [hbl] at hfc
  have hss : (⟨l.toArray⟩ : ByteArray).size = l.length := by simp [ByteArray.size]
  rw [hss] at hfc
  have hsp : splice old 0 (flat bc l) = flat bc l ++ [] := by
    unfold splice
    rw [List.take_zero, List.nil_append, List.drop_eq_nil_of_le (by omega)]
  rw [hsp] at hsat
  have hrun : (Builtin.copy_ #[t, ts] ty #[.slice (some ⟨b, 0, none⟩) l.length cap, sv l]).run P w = .ok (.int .i64 (l.length : Nat)) w' := by
    simp [Builtin.copy_, run_underlying hu, sizeOf, typeInfo, hi, hsz, Builtin.lenOf, hss, hfc, hw, goInt, Nat.min_self]
  unfold Oper.wp
  have : (execOp a.eval ⟨dd, .call { callee := .builtin .copy, args := #[x, y], argTypes := #[t, ts] }, ty, pos, aft, g⟩).run P w = .ok (.value (.int .i64 (l.length : Nat))) w' := by
    simp [execOp, resolve, invoke, builtin, hf.eval hx, hf.eval hy, hrun, Sem.run]
  rw [this]
  exact hN _ _ _ ⟨rfl, rfl⟩ hsat
theorem op_copys {ts e by_ b m cap : Nat} {x y : Operand} {T : TypeId} {l : List UInt8} {old : List Value} (hk : sliceK P t = some (e, 1, by_)) (hx : ev fr x = some (.slice (some ⟨b, 0, none⟩) m cap)) (hy : ev fr y = some (sv l)) (hd : Nat.blt d n = true)
    (hr : Rem L (pt b T old) M) (hm : m = l.length) (ho : old.length = l.length) (h : Op P c n ops Q Ls fl rest ((d, .int .i64 (l.length : Nat)) :: fr) (pt b T (flat bc l ++ []) :: M)) :
    Op P c n ops Q Ls (2 :: fl) (⟨some d, .call { callee := .builtin .copy, args := #[x, y], argTypes := #[t, ts] }, ty, pos, aft, none⟩ :: rest) fr L :=
  op_e (ef_copys hk hx hy hr hm ho) hd fun v L' ⟨hv, hl⟩ => by subst hv; subst hl; exact h
/-- unsafe.String over a whole row of bytes: the row is no longer known. -/
theorem ef_ustr {dd : Option Tmp} {g : Option (Nat × Bool)} {pt_ it e b m : Nat} {x y : Operand} {T : TypeId} {l : List UInt8} {r : List Value} (hp : P.underlying pt_ = some (.pointer T)) (hc : P.cellsOf T = 1) (hx : ev fr x = some (.pointer (some ⟨b, 0, none⟩))) (hy : ev fr y = some (.int .i64 (m : Nat)))
    (hr : Rem L (pt b T (flat bc l ++ r)) M) (hm : m = l.length) (h0 : l ≠ []) (h63 : l.length ≤ 9223372036854775807) :
    Ef P c n fr L ⟨dd, .call { callee := .builtin .unsafeString, args := #[x, y], argTypes := #[pt_, it] }, ty, pos, aft, g⟩ fun v L' => v = sv l ∧ L' = M := fun X a w hf hs N hN => by
  subst hm
  have hs' := Sat.rem hr hs
  have hb : w.heap[b]? = some (.cells (flat bc l ++ r).toArray T (0, 0)) := Sat.block hs'
  have hfl : (flat bc l).length = l.length := by rw [flat_length bc1, Nat.mul_one]
  have hrun := Lib.run_unsafeString_row (P := P) w pt_ it ty T hp hc b (flat bc l ++ r).length (by simp [World.shape?, hb]) l h0 (by simp [hfl]) h63 (fun j x hj => by
    rw [add_mk, cell_of_block hb, Nat.zero_add, flat_bc, List.getElem?_append_left (by have := (List.getElem?_eq_some_iff.1 hj).1; simpa using this)]
    simp [hj])
  have hsat : Sat M c (w.freeze ⟨b, 0, none⟩ l.length) := by
    have hl0 : l.length ≠ 0 := by simpa using h0
    have hlt : b < w.heap.size := (Array.getElem?_eq_some_iff.1 hb).1
    refine Sat.drop (Sat.set hs' (o' := .cells (flat bc l ++ r).toArray T (0, l.length)) ?_ ?_ ?_ ?_ ?_)
    · have := (Array.getElem?_eq_some_iff.1 hb).2
      simp [World.freeze, hl0, Array.getElem?_modify, hb]
    · intro k hk
      simp only [World.freeze, hl0, if_false, Array.getElem?_modify]
      rw [if_neg (by omega)]
    · simp [World.freeze, hl0]
    · simp [World.freeze, hl0]
    · simp [World.freeze, hl0]
  unfold Oper.wp
  have : (execOp a.eval ⟨dd, .call { callee := .builtin .unsafeString, args := #[x, y], argTypes := #[pt_, it] }, ty, pos, aft, g⟩).run P w = .ok (.value (sv l)) (w.freeze ⟨b, 0, none⟩ l.length) := by
    simp [execOp, resolve, invoke, builtin, hf.eval hx, hf.eval hy, hrun, Sem.run]
  rw [this]
  exact hN _ _ _ ⟨rfl, rfl⟩ hsat
theorem op_ustr {pt_ it b m : Nat} {x y : Operand} {T : TypeId} {l : List UInt8} {r : List Value} (hp : P.underlying pt_ = some (.pointer T)) (hc : P.cellsOf T = 1) (hx : ev fr x = some (.pointer (some ⟨b, 0, none⟩))) (hy : ev fr y = some (.int .i64 (m : Nat))) (hd : Nat.blt d n = true)
    (hr : Rem L (pt b T (flat bc l ++ r)) M) (hm : m = l.length) (h0 : l ≠ []) (h63 : l.length ≤ 9223372036854775807) (h : Op P c n ops Q Ls fl rest ((d, sv l) :: fr) M) :
    Op P c n ops Q Ls (2 :: fl) (⟨some d, .call { callee := .builtin .unsafeString, args := #[x, y], argTypes := #[pt_, it] }, ty, pos, aft, none⟩ :: rest) fr L :=
  op_e (ef_ustr (e := 0) hp hc hx hy hr hm h0 h63) hd fun v L' ⟨hv, hl⟩ => by subst hv; subst hl; exact h
/-- ^x of a word of 16 bits. -/
theorem y_xor16 {dd : Option Tmp} {g : Option (Nat × Bool)} {u : TypeId} {x : Operand} {i : Int} {a : Nat} (hx : ev fr x = some (.int .u16 i)) (hi : i = (a : Int)) (ha : a < 65536) :
    Yf P n fr ⟨dd, .unOp .xor u x, ty, pos, aft, g⟩ (.int .u16 ((65535 - a : Nat) : Int)) := fun A w hf => by
  subst hi
  have e : IntKind.wrap .u16 ((BitVec.ofInt IntKind.u16.bits 65535 ^^^ BitVec.ofInt IntKind.u16.bits (a : Int)).toNat : Int) = ((65535 - a : Nat) : Int) := by
    have e0 : ∀ k, k = 16 → (BitVec.ofInt k 65535 ^^^ BitVec.ofInt k (a : Int)).toNat = 65535 - a := by
      rintro k rfl
      have e1 : BitVec.ofInt 16 65535 = BitVec.allOnes 16 := by decide
      rw [e1, BitVec.allOnes_xor, BitVec.toNat_not, bvN (n := 16) (by omega)]
    rw [e0 IntKind.u16.bits rfl]
    exact wrapN (k := .u16) rfl (by show 65535 - a < 65536; omega)
  have e2 : (Op.unary .xor (.int .u16 (a : Int))).run P w = .ok (.int .u16 ((65535 - a : Nat) : Int)) w := by
    have e3 : Op.unary .xor (.int .u16 (a : Int)) = Op.intBits .xor .u16 65535 (a : Int) := rfl
    rw [e3]
    simp only [Op.intBits]
    rw [← e]; simp [Sem.run]
  simp [execOp, hf.eval hx, e2, Sem.run]
end
end Go.SL
/- Maps whose keys are numbers: a new one, a look, a thing put, one taken away. Over any program. -/
namespace Go.SL
def encE (kk : IntKind) (p : Int × Value) : Value × Value := (.int kk p.1, p.2)
/-- A map at block b: its entries, in the order in which they came. -/
def mp (b : Nat) (kk : IntKind) (M : List (Int × Value)) : As := fun h => ∃ x : Array MapEntry × Nat, x.1.toList.map (fun e => (e.key, e.val)) = M.map (encE kk) ∧ ob b (.map x.1 x.2) h
def MFind (k : Int) : List (Int × Value) → Nat → Option (Nat × Value)
  | [], _ => none
  | (a, v) :: r, i => if k = a then some (i, v) else MFind k r (i + 1)
theorem findNow_mp {k0 kk : IntKind} {k : Int} : ∀ (es : List MapEntry) (M : List (Int × Value)) (i : Nat), es.map (fun e => (e.key, e.val)) = M.map (encE kk) → Instr.findNow (.int k0) (.int kk k) es i = some (MFind k M i)
  | [], [], _, _ => rfl
  | [], _ :: _, _, h => by cases h
  | _ :: _, [], _, h => by cases h
  | e :: es, (a, v) :: M, i, h => by
    simp only [List.map_cons, encE] at h
    injection h with h1 h2
    injection h1 with h3 h4
    have ih := findNow_mp (k0 := k0) (k := k) es M (i + 1) h2
    have hs : Instr.sameNow (.int k0) (.int kk k) e.key = some (k == a) := by rw [h3]; simp [Instr.sameNow]
    unfold Instr.findNow MFind
    rw [hs]
    by_cases hk : k = a
    · subst hk; simp [h4]
    · have : (k == a) = false := by simpa using hk
      rw [this, if_neg hk]; exact ih
theorem MFind_lt {k : Int} : ∀ {M : List (Int × Value)} {i j : Nat} {v : Value}, MFind k M i = some (j, v) → i ≤ j ∧ j - i < M.length ∧ M[j - i]? = some (k, v)
  | [], _, _, _, h => by cases h
  | (a, u) :: M, i, j, v, h => by
    unfold MFind at h
    split at h
    · rename_i e; subst e
      injection h with h; injection h with h1 h2; subst h1; subst h2
      simp
    · obtain ⟨h1, h2, h3⟩ := MFind_lt h
      refine ⟨by omega, by simp; omega, ?_⟩
      have : j - i = (j - (i + 1)) + 1 := by omega
      rw [this]; simpa using h3
theorem MFind_none {k : Int} : ∀ {M : List (Int × Value)} {i : Nat}, (∀ p ∈ M, p.1 ≠ k) → MFind k M i = none
  | [], _, _ => rfl
  | (a, v) :: M, i, h => by
    unfold MFind
    rw [if_neg (fun e => h (a, v) (by simp) e.symm)]
    exact MFind_none fun p hp => h p (by simp [hp])
def MPut (k : Int) (v : Value) (M : List (Int × Value)) : List (Int × Value) := match MFind k M 0 with
  | some (i, _) => M.set i (k, v)
  | none => M ++ [(k, v)]
def MDel (k : Int) (M : List (Int × Value)) : List (Int × Value) := match MFind k M 0 with
  | some (i, _) => M.eraseIdx i
  | none => M
section
variable {P : Program} {c : Cx} {n : Nat} {ops : Array Oper} {Q : Exit → Act → World → Prop} {fr : Fr} {L Ls F : List As} {t kT eT ty : TypeId} {pos : String} {aft : Array Edge} {fl : List Nat} {rest : List Oper} {kk : IntKind}
theorem mp_open {b : Nat} {M : List (Int × Value)} {w : World} (h : Sat (mp b kk M :: F) c w) : ∃ (es : Array MapEntry) (clock : Nat), es.toList.map (fun e => (e.key, e.val)) = M.map (encE kk) ∧ w.heap[b]? = some (.map es clock) ∧
    Sat (ob b (.map es clock) :: F) c w := by
  obtain ⟨h1, ⟨⟨es, clock⟩, hx, hs⟩, d, k⟩ := h
  have hs' : Sat (ob b (.map es clock) :: F) c w := ⟨h1, hs, d, k⟩
  exact ⟨es, clock, hx, hs'.block, hs'⟩
theorem mp_shut {b : Nat} {M : List (Int × Value)} {w : World} {es : Array MapEntry} {clock : Nat} (hx : es.toList.map (fun e => (e.key, e.val)) = M.map (encE kk)) (h : Sat (ob b (.map es clock) :: F) c w) : Sat (mp b kk M :: F) c w := by
  obtain ⟨h1, hs, d, k⟩ := h
  exact ⟨h1, ⟨(es, clock), hx, hs⟩, d, k⟩
theorem y_look {x y : Operand} {b : Nat} {k : Int} {M : List (Int × Value)} {z : Value} {d : Option Tmp} {g : Option (Nat × Bool)} (hm : P.underlying t = some (.map kT eT)) (hk : P.underlying kT = some (.int kk)) (hz : (P.info? eT).bind (·.zero) = some z)
    (hx : ev fr x = some (.map (some b))) (hy : ev fr y = some (.int kk k)) (hr : Rem L (mp b kk M) F) : Yl P c n fr L ⟨d, .lookup t x y false, ty, pos, aft, g⟩ (((MFind k M 0).map (·.2)).getD z) := fun a w hf hw => by
  obtain ⟨es, clock, he, hb, _⟩ := mp_open (Sat.rem hr hw)
  have h1 := Go.MapKept.run_checkKey (P := P) (w := w) (kt := kT) (d := .int kk) (k := .int kk k) hk (by simp [Go.MapKept.IsKey]) es.isEmpty 9999
  have h2 := Go.MapKept.run_findKey (P := P) (w := w) hk (findNow_mp (k0 := kk) (k := k) es.toList M 0 he)
  have hi : ∃ inf, P.info? eT = some inf ∧ inf.zero = some z := by
    cases hi : P.info? eT with
    | none => simp [hi] at hz
    | some inf => simp [hi] at hz; exact ⟨inf, rfl, hz⟩
  obtain ⟨inf, hi, hzz⟩ := hi
  simp only [execOp, hf.eval hx, hf.eval hy]
  have : (Instr.lookup t (.map (some b)) (.int kk k) false).run P w = .ok (((MFind k M 0).map (·.2)).getD z) w := by
    simp only [Instr.lookup, Sem.run_bind, run_underlying hm, Result.andThen_ok, Go.MapKept.run_getObj_map hb, Sem.run_pure, h1, h2]
    cases hh : MFind k M 0 with
    | none => simp [zeroValue, run_typeInfo w hi, hzz, Sem.run]
    | some p => obtain ⟨i, v⟩ := p; simp [Sem.run]
  simp [this, Sem.run]
theorem op_look {x y : Operand} {d b : Nat} {k : Int} {M : List (Int × Value)} {z : Value} (hm : P.underlying t = some (.map kT eT)) (hk : P.underlying kT = some (.int kk)) (hz : (P.info? eT).bind (·.zero) = some z)
    (hx : ev fr x = some (.map (some b))) (hy : ev fr y = some (.int kk k)) (hd : Nat.blt d n = true) (hr : Rem L (mp b kk M) F) (h : Op P c n ops Q Ls fl rest ((d, ((MFind k M 0).map (·.2)).getD z) :: fr) L) :
    Op P c n ops Q Ls (1 :: fl) (⟨some d, .lookup t x y false, ty, pos, aft, none⟩ :: rest) fr L := op_r (y_look hm hk hz hx hy hr) hd h
/-- A new one. -/
theorem op_mkm {d : Nat} (kk : IntKind) (hd : Nat.blt d n = true) (h : ∀ b, Op P c n ops Q Ls fl rest ((d, .map (some b)) :: fr) (mp b kk [] :: L)) :
    Op P c n ops Q Ls (2 :: fl) (⟨some d, .makeMap t none, ty, pos, aft, none⟩ :: rest) fr L := by
  refine op_e (K := fun v L' => ∃ b, v = .map (some b) ∧ L' = mp b kk [] :: L) (fun X a w hf hs N hN => ?_) hd fun _ _ ⟨b, hv, hl⟩ => by subst hv; subst hl; exact h b
  unfold Oper.wp
  have : (execOp a.eval ⟨some d, .makeMap t none, ty, pos, aft, none⟩).run P w = .ok (.value (.map (some w.heap.size))) { w with heap := w.heap.push (.map #[] 0) } := by
    simp [execOp, Instr.makeMap, newObj, Sem.run]
  rw [this]
  exact hN _ _ _ ⟨_, rfl, rfl⟩ (mp_shut (es := #[]) (clock := 0) rfl (Sat.new hs _))
theorem mapmod (es : Array MapEntry) (M : List (Int × Value)) (he : es.toList.map (fun e => (e.key, e.val)) = M.map (encE kk)) (i : Nat) (k : Int) (v : Value) (key : Value) (hkey : key = .int kk k) :
    (es.modify i fun e => { e with key, val := v }).toList.map (fun e => (e.key, e.val)) = (M.set i (k, v)).map (encE kk) := by
  rw [List.map_set, ← he]
  apply List.ext_getElem?
  intro j
  simp only [List.getElem?_map, Array.getElem?_toList, Array.getElem?_modify, List.getElem?_set, List.length_map, Array.length_toList]
  by_cases h : i = j
  · subst h
    by_cases hl : i < es.size
    · simp [hl, encE, hkey]
    · simp [hl]
  · simp [h]
theorem map_erase {α β : Type} (f : α → β) (i : Nat) (l : List α) : (l.eraseIdx i).map f = (l.map f).eraseIdx i := by
  induction l generalizing i with
  | nil => rfl
  | cons a l ih => cases i with
    | zero => rfl
    | succ i => simp [ih]
theorem sat_setObj {b : Nat} {o o' : Obj} {w : World} (h : Sat (ob b o :: F) c w) : Sat (ob b o' :: F) c { w with heap := w.heap.setIfInBounds b o' } := by
  obtain ⟨h1, h2⟩ := Go.MapKept.heap_set (o' := o') h.block
  exact Sat.set h h1 h2 rfl rfl rfl
/-- A thing put. -/
theorem ef_mput {x y v : Operand} {b : Nat} {k : Int} {M : List (Int × Value)} {u : Value} {op : Go.Op} (ho : op = .mapUpdate t x y v ∨ op = .insert t x y v) (hm : P.underlying t = some (.map kT eT)) (hk : P.underlying kT = some (.int kk))
    (hx : ev fr x = some (.map (some b))) (hy : ev fr y = some (.int kk k)) (hv : ev fr v = some u) (hr : Rem L (mp b kk M) F) :
    Ef P c n fr L ⟨none, op, ty, pos, aft, none⟩ fun _ L' => L' = mp b kk (MPut k u M) :: F := fun X a w hf hs N hN => by
  obtain ⟨es, clock, he, hb, hs'⟩ := mp_open (Sat.rem hr hs)
  have h1 := Go.MapKept.run_checkKey (P := P) (w := w) (kt := kT) (d := .int kk) (k := .int kk k) hk (by simp [Go.MapKept.IsKey]) false 9999
  have h2 := Go.MapKept.run_findKey (P := P) (w := w) hk (findNow_mp (k0 := kk) (k := k) es.toList M 0 he)
  have hrun : ∃ w', (Instr.mapUpdate t (.map (some b)) (.int kk k) u).run P w = .ok () w' ∧ Sat (mp b kk (MPut k u M) :: F) c w' := by
    simp only [Instr.mapUpdate, Sem.run_bind, run_underlying hm, Result.andThen_ok, Go.MapKept.run_getObj_map hb, h1, h2, MPut]
    cases hh : MFind k M 0 with
    | none =>
      refine ⟨_, Go.MapKept.run_setObj_map _ hb, mp_shut (es := es.push { key := .int kk k, val := u, born := clock }) (clock := clock + 1) ?_ (sat_setObj hs')⟩
      simp [he, encE]
    | some p =>
      obtain ⟨i, v0⟩ := p
      obtain ⟨_, h4, h5⟩ := MFind_lt hh
      have hkey : ((es[i]?).map (·.key)).getD (.int kk k) = .int kk k := by
        have := congrArg (fun l => (l[i]?).map (·.1)) he
        simp only [List.getElem?_map, Array.getElem?_toList] at this
        rw [Nat.sub_zero] at h5
        rw [h5] at this
        cases hei : es[i]? with
        | none => rfl
        | some e => rw [hei] at this; simpa [encE] using this
      have hst := Go.MapKept.run_keyThatStays (P := P) (w := w) (d := .int kk) (k := .int kk k) (by simp [Go.MapKept.IsKey])
      simp only [hkey, Sem.run_bind, hst, Result.andThen_ok]
      exact ⟨_, Go.MapKept.run_setObj_map _ hb, mp_shut (clock := clock) (mapmod es M he i k u _ rfl) (sat_setObj hs')⟩
  obtain ⟨w', hw, hs2⟩ := hrun
  unfold Oper.wp
  have : (execOp a.eval ⟨none, op, ty, pos, aft, none⟩).run P w = .ok .skip w' := by
    rcases ho with rfl | rfl <;> simp [execOp, hf.eval hx, hf.eval hy, hf.eval hv, hw, Sem.run]
  rw [this]
  exact hN undef _ w' rfl hs2
theorem op_mput {x y v : Operand} {b : Nat} {k : Int} {M : List (Int × Value)} {u : Value} (hm : P.underlying t = some (.map kT eT)) (hk : P.underlying kT = some (.int kk))
    (hx : ev fr x = some (.map (some b))) (hy : ev fr y = some (.int kk k)) (hv : ev fr v = some u) (hr : Rem L (mp b kk M) F) (h : Op P c n ops Q Ls fl rest fr (mp b kk (MPut k u M) :: F)) :
    Op P c n ops Q Ls (2 :: fl) (⟨none, .mapUpdate t x y v, ty, pos, aft, none⟩ :: rest) fr L := op_e0 (ef_mput (.inl rfl) hm hk hx hy hv hr) fun _ _ e => by rw [e]; exact h
theorem op_mins {x y v : Operand} {b : Nat} {k : Int} {M : List (Int × Value)} {u : Value} (hm : P.underlying t = some (.map kT eT)) (hk : P.underlying kT = some (.int kk))
    (hx : ev fr x = some (.map (some b))) (hy : ev fr y = some (.int kk k)) (hv : ev fr v = some u) (hr : Rem L (mp b kk M) F) (h : Op P c n ops Q Ls fl rest fr (mp b kk (MPut k u M) :: F)) :
    Op P c n ops Q Ls (2 :: fl) (⟨none, .insert t x y v, ty, pos, aft, none⟩ :: rest) fr L := op_e0 (ef_mput (.inr rfl) hm hk hx hy hv hr) fun _ _ e => by rw [e]; exact h
/-- One taken away. -/
theorem ef_mdel {x y : Operand} {b : Nat} {k : Int} {M : List (Int × Value)} {d : Option Tmp} {ats : Array TypeId} (hat : ats[0]? = some t) (hm : P.underlying t = some (.map kT eT)) (hk : P.underlying kT = some (.int kk))
    (hx : ev fr x = some (.map (some b))) (hy : ev fr y = some (.int kk k)) (hr : Rem L (mp b kk M) F) :
    Ef P c n fr L ⟨d, .call { callee := .builtin .delete, args := #[x, y], argTypes := ats }, ty, pos, aft, none⟩ fun v L' => v = .tuple #[] ∧ L' = mp b kk (MDel k M) :: F := fun X a w hf hs N hN => by
  obtain ⟨es, clock, he, hb, hs'⟩ := mp_open (Sat.rem hr hs)
  have h1 := Go.MapKept.run_checkKey (P := P) (w := w) (kt := kT) (d := .int kk) (k := .int kk k) hk (by simp [Go.MapKept.IsKey]) es.isEmpty 9999
  have h2 := Go.MapKept.run_findKey (P := P) (w := w) hk (findNow_mp (k0 := kk) (k := k) es.toList M 0 he)
  have hrun : ∃ w', (Builtin.delete_ ats ty #[.map (some b), .int kk k]).run P w = .ok (.tuple #[]) w' ∧ Sat (mp b kk (MDel k M) :: F) c w' := by
    simp only [Builtin.delete_, hat, List.getElem?_toArray, List.getElem?_cons_zero, List.getElem?_cons_succ, Sem.run_bind, run_underlying hm, Result.andThen_ok, Go.MapKept.run_getObj_map hb, h1, h2, MDel]
    cases hh : MFind k M 0 with
    | none =>
      simp only [Sem.run_bind, Go.MapKept.run_setObj_map _ hb, Result.andThen_ok, Sem.run_pure]
      exact ⟨_, rfl, mp_shut he (sat_setObj hs')⟩
    | some p =>
      obtain ⟨i, v0⟩ := p
      simp only [Sem.run_bind, Go.MapKept.run_setObj_map _ hb, Result.andThen_ok, Sem.run_pure]
      refine ⟨_, rfl, mp_shut (clock := clock) ?_ (sat_setObj hs')⟩
      obtain ⟨_, h4, h5⟩ := MFind_lt hh
      rw [Nat.sub_zero] at h4
      have hl : i < es.size := by
        have := congrArg List.length he
        simp at this; omega
      simp only [Array.eraseIdxIfInBounds, hl, dif_pos, Array.toList_eraseIdx]
      rw [map_erase, map_erase, he]
  obtain ⟨w', hw, hs2⟩ := hrun
  unfold Oper.wp
  have : (execOp a.eval ⟨d, .call { callee := .builtin .delete, args := #[x, y], argTypes := ats }, ty, pos, aft, none⟩).run P w = .ok (.value (.tuple #[])) w' := by
    simp [execOp, resolve, invoke, builtin, hf.eval hx, hf.eval hy, hw, Sem.run]
  rw [this]
  exact hN _ _ w' ⟨rfl, rfl⟩ hs2
theorem op_mdel {x y : Operand} {d b : Nat} {k : Int} {M : List (Int × Value)} {ats : Array TypeId} (hat : ats[0]? = some t) (hm : P.underlying t = some (.map kT eT)) (hk : P.underlying kT = some (.int kk))
    (hx : ev fr x = some (.map (some b))) (hy : ev fr y = some (.int kk k)) (hd : Nat.blt d n = true) (hr : Rem L (mp b kk M) F) (h : Op P c n ops Q Ls fl rest ((d, .tuple #[]) :: fr) (mp b kk (MDel k M) :: F)) :
    Op P c n ops Q Ls (2 :: fl) (⟨some d, .call { callee := .builtin .delete, args := #[x, y], argTypes := ats }, ty, pos, aft, none⟩ :: rest) fr L := op_e (ef_mdel hat hm hk hx hy hr) hd fun _ _ ⟨hv, e⟩ => by rw [e, hv]; exact h
end
end Go.SL
/- A slice that owns a window of its block: what was taken off its front stays in the block. Over any program. -/
namespace Go.SL
def ownW (T sz : Nat) (A : Option Addr) (m cap : Nat) (cs : List Value) : As := fun h =>
  (A = none ∧ m = 0 ∧ cap = 0 ∧ cs = [] ∧ h = Hp.emp) ∨
  ∃ b pre rest, A = some ⟨b, pre.length, none⟩ ∧ cs.length = m * sz ∧ cap * sz ≤ (cs ++ rest).length ∧ m ≤ cap ∧ pt b T (pre ++ (cs ++ rest)) h
section
variable {P : Program} {c : Cx} {n : Nat} {ops : Array Oper} {Q : Exit → Act → World → Prop} {fr : Fr} {L M Ls : List As}
variable {d : Nat} {ty : TypeId} {pos : String} {aft : Array Edge} {fl : List Nat} {rest : List Oper}
theorem ownW_nil {T sz : Nat} {w : World} (h : Sat M c w) : Sat (ownW T sz none 0 0 [] :: M) c w := by
  refine ⟨Hp.emp, .inl ⟨rfl, rfl, rfl, rfl, rfl⟩, Hp.emp_disj _, ?_⟩
  have : c.with Hp.emp = c := by cases c; simp [Cx.with, Hp.emp_un]
  rw [this]; exact h
theorem ownW_mk {T sz b m cap : Nat} {pre cs r : List Value} {w : World} (h1 : cs.length = m * sz) (h2 : cap * sz ≤ (cs ++ r).length) (h3 : m ≤ cap) (h : Sat (pt b T (pre ++ (cs ++ r)) :: M) c w) : Sat (ownW T sz (some ⟨b, pre.length, none⟩) m cap cs :: M) c w := by
  obtain ⟨x, hx, dx, k⟩ := h
  exact ⟨x, .inr ⟨b, pre, r, rfl, h1, h2, h3, hx⟩, dx, k⟩
theorem ownW_cases {T sz m cap : Nat} {A : Option Addr} {cs : List Value} {w : World} (h : Sat (ownW T sz A m cap cs :: M) c w) :
    (A = none ∧ m = 0 ∧ cap = 0 ∧ cs = [] ∧ Sat M c w) ∨ ∃ b pre r, A = some ⟨b, pre.length, none⟩ ∧ cs.length = m * sz ∧ cap * sz ≤ (cs ++ r).length ∧ m ≤ cap ∧ Sat (pt b T (pre ++ (cs ++ r)) :: M) c w := by
  obtain ⟨x, hx, dx, k⟩ := h
  rcases hx with ⟨h1, h2, h3, h4, rfl⟩ | ⟨b, pre, r, h1, h2, h3, h4, h5⟩
  · refine .inl ⟨h1, h2, h3, h4, ?_⟩
    have : c.with Hp.emp = c := by cases c; simp [Cx.with, Hp.emp_un]
    rwa [this] at k
  · exact .inr ⟨b, pre, r, h1, h2, h3, h4, x, h5, dx, k⟩
theorem ownW_le {T sz m cap : Nat} {A : Option Addr} {cs : List Value} {w : World} (h : Sat (ownW T sz A m cap cs :: M) c w) : m ≤ cap := by
  rcases ownW_cases h with ⟨_, h1, h2, _⟩ | ⟨_, _, _, _, _, _, h, _⟩
  · omega
  · exact h
/-- What waits at a place. -/
theorem ownW_rd {T sz m cap : Nat} {b o : Nat} {cs : List Value} {j : Nat} {v : Value} (hr : Rem L (ownW T sz (some ⟨b, o, none⟩) m cap cs) M) (hv : cs[j]? = some v) : Rd c L ⟨b, o + j, none⟩ v := fun w hs => by
  rcases ownW_cases (Sat.rem hr hs) with ⟨h0, _⟩ | ⟨b', pre, r, h1, _, _, _, h5⟩
  · cases h0
  · injection h1 with h1; injection h1 with h1 h2; subst h1; subst h2
    have hlt := (List.getElem?_eq_some_iff.1 hv).1
    rw [cell_of_block (Sat.block h5), List.getElem?_append_right (by omega), Nat.add_sub_cancel_left, List.getElem?_append_left hlt]; exact hv
/-- The first k elements are taken off. -/
theorem ownW_drop {T sz m cap k : Nat} {b o : Nat} {cs : List Value} {w : World} (hk : k ≤ m) (h : Sat (ownW T sz (some ⟨b, o, none⟩) m cap cs :: M) c w) :
    Sat (ownW T sz (if cap = k then some ⟨b, o, none⟩ else some ⟨b, o + k * sz, none⟩) (m - k) (cap - k) (cs.drop (k * sz)) :: M) c w := by
  rcases ownW_cases h with ⟨h0, _⟩ | ⟨b', pre, r, h1, h2, h3, h4, h5⟩
  · cases h0
  injection h1 with h1; injection h1 with h1 h1'; subst h1; subst h1'
  have hks : k * sz ≤ m * sz := Nat.mul_le_mul_right _ hk
  have hms : m * sz ≤ cap * sz := Nat.mul_le_mul_right _ h4
  have e1 : (cs.drop (k * sz)).length = (m - k) * sz := by rw [List.length_drop, h2, Nat.sub_mul]
  by_cases hck : cap = k
  · rw [if_pos hck]
    have hm : m = k := by omega
    have e2 : cs.drop (k * sz) = [] := by rw [List.drop_eq_nil_of_le]; rw [h2, hm]; exact Nat.le_refl _
    rw [e2]
    exact ownW_mk (r := cs ++ r) (by simp [hm]) (by rw [hck, Nat.sub_self]; simp) (by omega) h5
  · rw [if_neg hck]
    have e3 : (pre ++ cs.take (k * sz)).length = pre.length + k * sz := by rw [List.length_append, List.length_take, h2]; congr 1; exact Nat.min_eq_left hks
    rw [← e3]
    refine ownW_mk (r := r) e1 ?_ (by omega) ?_
    · rw [List.length_append] at h3 ⊢; rw [e1]
      rw [Nat.sub_mul, Nat.sub_mul]; rw [h2] at h3; omega
    · have : pre ++ cs.take (k * sz) ++ (cs.drop (k * sz) ++ r) = pre ++ (cs ++ r) := by
        rw [List.append_assoc, ← List.append_assoc (cs.take _), List.take_append_drop]
      rw [this]; exact h5
/-- append: of a slice that owns a window, to cells that can be read. -/
theorem ef_appendW {dd : Option Tmp} {g : Option (Nat × Bool)} {t e sz by_ : Nat} {x y : Operand} {A : Option Addr} {p : Addr} {m cap k kc : Nat} {cs news z : List Value} {M : List As}
    (hk : sliceK P t = some (e, sz, by_)) (hz : zeroC P e = some z) (hx : ev fr x = some (.slice A m cap)) (hy : ev fr y = some (.slice (some p) k kc)) (hzs : z.length = sz) (hsz : 0 < sz)
    (hr : Rem L (ownW e sz A m cap cs) M) (hnl : news.length = k * sz) (hn : Rds c L p news) (h1 : ones news = true) (hkp : 0 < k) (hfit : (m + k) * by_ ≤ 140737488355328) (h63 : m + k ≤ 9223372036854775807) :
    Ef P c n fr L ⟨dd, .call { callee := .builtin .append, args := #[x, y], argTypes := #[t, t] }, ty, pos, aft, g⟩ fun v L' => ∃ A' cap', v = .slice A' (m + k) cap' ∧ L' = ownW e sz A' (m + k) cap' (cs ++ news) :: M := fun X a w hf hs N hN => by
  have hnews := hn w hs
  have hall : ∀ u ∈ news, u.oneCell' = true := fun u hu => List.all_eq_true.1 h1 u hu
  have hs' := Sat.rem hr hs
  have hti : ∃ inf, P.underlying t = some (.slice e) ∧ P.info? e = some inf ∧ inf.size = sz ∧ inf.bytes = by_ := by
    unfold sliceK at hk
    split at hk
    · rename_i e' hu
      cases hi : P.info? e' with
      | none => simp [hi] at hk
      | some inf => simp [hi] at hk; obtain ⟨rfl, h2, h3⟩ := hk; exact ⟨inf, hu, hi, h2, h3⟩
    · cases hk
  obtain ⟨inf, hu, hi, hsz', hby⟩ := hti
  have hzz : ∃ u, inf.zero = some u ∧ u.cells.toList = z := by
    unfold zeroC at hz
    rw [hi] at hz
    cases hzz : inf.zero with
    | none => simp [hzz] at hz
    | some u => simp [hzz] at hz; exact ⟨u, rfl, hz⟩
  obtain ⟨u, hzv, huz⟩ := hzz
  have husz : u.cells.size = sz := by rw [← hzs, ← huz]; simp
  have hsrc : Src P inf.size t (.slice (some p) k kc) k news w := Src.ofSlice w hu p k kc news (by rw [hsz']; exact hnl) hnews hall
  have hle := ownW_le hs'
  have fin : ∀ v w', (Builtin.append_ #[t, t] ty #[.slice A m cap, .slice (some p) k kc]).run P w = .ok v w' → (∃ A' cap', v = .slice A' (m + k) cap' ∧ Sat (ownW e sz A' (m + k) cap' (cs ++ news) :: M) c w') →
      Oper.wp P ⟨dd, .call { callee := .builtin .append, args := #[x, y], argTypes := #[t, t] }, ty, pos, aft, g⟩ a w N X := by
    rintro v w' hrun ⟨A', cap', rfl, hsat⟩
    unfold Oper.wp
    have : (execOp a.eval ⟨dd, .call { callee := .builtin .append, args := #[x, y], argTypes := #[t, t] }, ty, pos, aft, g⟩).run P w = .ok (.value (.slice A' (m + k) cap')) w' := by
      simp [execOp, resolve, invoke, builtin, hf.eval hx, hf.eval hy, hrun, Sem.run]
    rw [this]
    exact hN _ _ _ ⟨A', cap', rfl, rfl⟩ hsat
  have grow : cap < m + k → cs.length = m * sz → Sat M c w → (Builtin.firstCells inf.size m (.slice A m cap)).run P w.drew = .ok cs.toArray w.drew →
      Oper.wp P ⟨dd, .call { callee := .builtin .append, args := #[x, y], argTypes := #[t, t] }, ty, pos, aft, g⟩ a w N X := fun hc hcs hM hold => by
    have hrun := run_append_grow_src (P := P) w t t ty e inf u hu hi hzv A m cap cs hold (.slice (some p) k kc) k news hsrc hc (by omega) (by rw [hby]; exact growslice_fits (by omega) hfit)
    have hg := grownCap_ge w (m + k) cap e
    refine fin _ _ hrun ⟨_, _, rfl, ?_⟩
    have hd : Sat M c w.drew := Sat.upd hM (fun _ _ h => h) rfl rfl rfl
    have h2 := ownW_mk (T := e) (sz := sz) (b := w.drew.heap.size) (m := m + k) (cap := grownCap w (m + k) cap e) (pre := []) (cs := cs ++ news) (r := (Builtin.zeroCells u.cells (grownCap w (m + k) cap e - (m + k))).toList) (by simp [hcs, hnl, Nat.add_mul]) (by
      simp only [List.length_append, hcs, hnl, Array.length_toList, size_zeroCells, husz]
      rw [← Nat.add_mul, ← Nat.add_mul]; exact Nat.mul_le_mul_right _ (by omega)) (by omega) (Sat.newPt hd e _)
    have e1 : ([] ++ (cs ++ news ++ (Builtin.zeroCells u.cells (grownCap w (m + k) cap e - (m + k))).toList) : List Value).toArray = (cs ++ news).toArray ++ Builtin.zeroCells u.cells (grownCap w (m + k) cap e - (m + k)) := by apply Array.ext'; simp
    rw [e1] at h2
    exact h2
  rcases ownW_cases hs' with ⟨rfl, rfl, rfl, rfl, hM⟩ | ⟨b, pre, r, rfl, hcs, hcap, hmc, hM⟩
  · exact grow (by omega) (by simp) hM (run_firstCells_none w.drew inf.size 0 0 0)
  · by_cases hroom : m + k ≤ cap
    · have hlen : pre.length + m * sz + news.length ≤ (pre ++ (cs ++ r)).length := by
        have : (m + k) * sz ≤ cap * sz := Nat.mul_le_mul_right _ hroom
        rw [Nat.add_mul] at this
        rw [List.length_append, hnl]; omega
      obtain ⟨w', hw, hsat⟩ := Sat.storeRow (P := P) (L := pt b e (pre ++ (cs ++ r)) :: M) .here hlen h1 hM
      have hrun : (Builtin.append_ #[t, t] ty #[.slice (some ⟨b, pre.length, none⟩) m cap, .slice (some p) k kc]).run P w = .ok (.slice (some ⟨b, pre.length, none⟩) (m + k) cap) w' := by
        have hlen := hsrc.len
        have hcells := hsrc.cells
        rw [hsz'] at hcells
        simp [Builtin.append_, run_underlying hu, sizeOf, typeInfo, hi, hsz', hlen, hroom, hcells, add_mk, hw]
      refine fin _ _ hrun ⟨_, _, rfl, ?_⟩
      have e2 : splice (pre ++ (cs ++ r)) (pre.length + m * sz) news = pre ++ ((cs ++ news) ++ r.drop news.length) := by
        unfold splice
        rw [← hcs, List.take_append, List.drop_append]
        have a1 : pre.length + cs.length - pre.length = cs.length := by omega
        have a2 : pre.length + cs.length + news.length - pre.length = cs.length + news.length := by omega
        rw [a1, a2, List.take_of_length_le (by omega : pre.length ≤ pre.length + cs.length), List.drop_eq_nil_of_le (by omega : pre.length ≤ pre.length + cs.length + news.length), List.take_left, List.nil_append, List.drop_append, List.drop_eq_nil_of_le (by omega : cs.length ≤ cs.length + news.length)]
        have a3 : cs.length + news.length - cs.length = news.length := by omega
        rw [a3]
        simp
      rw [e2] at hsat
      refine ownW_mk (by simp [hcs, hnl, Nat.add_mul]) ?_ (by omega) hsat
      have : (m + k) * sz ≤ cap * sz := Nat.mul_le_mul_right _ hroom
      rw [Nat.add_mul] at this
      simp only [List.length_append, List.length_drop] at hcap ⊢
      omega
    · refine grow (by omega) hcs hM.drop (run_firstCells_some w.drew inf.size m ⟨b, pre.length, none⟩ m cap cs (by rw [hsz']; exact hcs) fun j v hj => ?_)
      have hb : w.heap[b]? = some (.cells (pre ++ (cs ++ r)).toArray e (0, 0)) := Sat.block hM
      have hlt := (List.getElem?_eq_some_iff.1 hj).1
      rw [add_mk]
      show w.cell? _ = _
      rw [cell_of_block hb, List.getElem?_append_right (by omega), Nat.add_sub_cancel_left, List.getElem?_append_left hlt]; exact hj
theorem op_appendW {t e sz by_ : Nat} {x y : Operand} {A : Option Addr} {p : Addr} {m cap k kc : Nat} {cs news z : List Value} {M : List As}
    (hk : sliceK P t = some (e, sz, by_)) (hz : zeroC P e = some z) (hx : ev fr x = some (.slice A m cap)) (hy : ev fr y = some (.slice (some p) k kc)) (hzs : z.length = sz) (hsz : 0 < sz) (hd : Nat.blt d n = true)
    (hr : Rem L (ownW e sz A m cap cs) M) (hn : Rds c L p news) (hnl : news.length = k * sz) (h1 : ones news = true) (hkp : 0 < k) (hfit : (m + k) * by_ ≤ 140737488355328) (h63 : m + k ≤ 9223372036854775807)
    (h : ∀ A' cap', Op P c n ops Q Ls fl rest ((d, .slice A' (m + k) cap') :: fr) (ownW e sz A' (m + k) cap' (cs ++ news) :: M)) :
    Op P c n ops Q Ls (2 :: fl) (⟨some d, .call { callee := .builtin .append, args := #[x, y], argTypes := #[t, t] }, ty, pos, aft, none⟩ :: rest) fr L :=
  op_e (ef_appendW hk hz hx hy hzs hsz hr hnl hn h1 hkp hfit h63) hd fun v L' ⟨A', cap', hv, hl⟩ => by subst hv; subst hl; exact h A' cap'
end
end Go.SL
/- Regions whose order is left open and in which a new block stands in no order to calls: the block may come ahead of each of them. Over any program. -/
namespace Go.SL
/-- sp: the places ahead of the new block's (k), in the order of the walk, fp their flags (0 or 2); st, ft: those behind it. -/
def okFromA (ops : Array Oper) (ms : Array Nat) (k0 f0 : Nat) (st ft : List Nat) : List Nat → List Nat → List Nat → Bool
  | seen, [], _ => okFrom ops ms seen (k0 :: st) (f0 :: ft)
  | seen, k :: s, fs => (match ops[k]? with
    | some ok => ((edgesOn ok).all fun y => seen.contains y && Nat.blt y ops.size) && !seen.contains k && !(k == k0) && (if fs.headD 2 == 0 || fs.headD 2 == 3 then ((s ++ k0 :: st).zip (fs.tail ++ f0 :: ft)).all fun (j, f) => !(j == k) && ((ms.getD j 0).testBit k || (match ops[j]? with | some oj => ok.apart ops oj && (fs.headD 2 == 0 || f == 0 || f == 1 || f == 3 || f == 4) | none => false))
        else (fs.headD 0 == 2) && (s ++ st).all (fun j => !(j == k) && (ms.getD j 0).testBit k) && okFrom ops ms (k0 :: seen) (k :: (s ++ st)) (fs ++ ft))
    | none => false) && okFromA ops ms k0 f0 st ft (k :: seen) s fs.tail
def okDrawA (ops : Array Oper) (sp : List Nat) (k0 f0 : Nat) (st fp ft : List Nat) : Bool := Region.noSelect ops && okMasks ops (masks ops) && (sp.length + st.length + 1 == ops.size) && (fp.length == sp.length) && (ft.length == st.length) &&
  (List.range ops.size).all (sp ++ k0 :: st).contains && okFromA ops (masks ops) k0 f0 st ft [] sp fp && (ops[k0]?).isSome && (f0 == 2 || f0 == 4)
section
variable {P : Program} {ops : Array Oper} {Q : Exit → Act → World → Prop}
def TOpsA (P : Program) (ops : Array Oper) (Q : Exit → Act → World → Prop) (S : World → Prop) (f0 : Nat) (o0 : Oper) (ft : List Nat) (tail : List Oper) : List Nat → List Oper → Act → World → Prop
  | _, [], a, w => TOps P ops Q S (f0 :: ft) (o0 :: tail) a w
  | fl, o :: rest, a, w => if fl.headD 2 = 0 then ∃ v, YS P ops (fun _ => True) o v a ∧ TOpsA P ops Q S f0 o0 ft tail fl.tail rest (a.put o.dst v) w
    else if fl.headD 2 = 3 then S w ∧ ∃ v, YS P ops S o v a ∧ TOpsA P ops Q S f0 o0 ft tail fl.tail rest (a.put o.dst v) w
    else Region.wanted o (yielded ops a.tmps) = true ∧ Region.wanted o0 (yielded ops a.tmps) = true ∧ o.wp P a w (TOpsA P ops Q S f0 o0 ft tail fl.tail rest) NoX ∧ o0.wp P a w (fun a' w' => (f0 = 4 → S w') ∧ TOps P ops Q S (fl ++ ft) (o :: (rest ++ tail)) a' w') NoX

theorem TOpsA_cons {S : World → Prop} {f0 : Nat} {o0 : Oper} {ft : List Nat} {tail : List Oper} {f : Nat} {fl : List Nat} {o : Oper} {rest : List Oper} {a : Act} {w : World} : TOpsA P ops Q S f0 o0 ft tail (f :: fl) (o :: rest) a w = if f = 0 then ∃ v, YS P ops (fun _ => True) o v a ∧ TOpsA P ops Q S f0 o0 ft tail fl rest (a.put o.dst v) w
    else if f = 3 then S w ∧ ∃ v, YS P ops S o v a ∧ TOpsA P ops Q S f0 o0 ft tail fl rest (a.put o.dst v) w
    else Region.wanted o (yielded ops a.tmps) = true ∧ Region.wanted o0 (yielded ops a.tmps) = true ∧ o.wp P a w (TOpsA P ops Q S f0 o0 ft tail fl rest) NoX ∧ o0.wp P a w (fun a' w' => (f0 = 4 → S w') ∧ TOps P ops Q S (f :: (fl ++ ft)) (o :: (rest ++ tail)) a' w') NoX := rfl
theorem pk_append (l : List Oper) : ∀ (s t : List Nat), pk l (s ++ t) = pk l s ++ pk l t
  | [], t => rfl
  | i :: s, t => by simp [pk, pk_append l s t]

theorem stepT2 {S : World → Prop} {fl : Nat → Nat} {i : Nat} {o : Oper} (ho : ops[i]? = some o) (h2 : fl i = 2) {K : Act → World → Prop} {a : Act} {w : World} (hw : Region.wanted o (yielded ops a.tmps) = true) (h : o.wp P a w K NoX) : stepT P ops S fl i K a w := by
  unfold stepT
  simp only [ho]
  rw [if_pos hw, h2]
  exact h

theorem stepT24 {S : World → Prop} {fl : Nat → Nat} {i f0 : Nat} {o : Oper} (ho : ops[i]? = some o) (hf : fl i = f0) (h24 : f0 = 2 ∨ f0 = 4) {K : Act → World → Prop} {a : Act} {w : World} (hw : Region.wanted o (yielded ops a.tmps) = true) (h : o.wp P a w (fun a' w' => (f0 = 4 → S w') ∧ K a' w') NoX) : stepT P ops S fl i K a w := by
  unfold stepT
  simp only [ho]
  rw [if_pos hw, hf]
  rcases h24 with rfl | rfl
  · exact Oper.wp_mono (fun a w h => h.2) h
  · exact Oper.wp_mono (fun a w h => ⟨h.1 rfl, h.2⟩) h
theorem TOpsA.any {S : World → Prop} {f0 : Nat} {ms : Array Nat} (hv : okMasks ops ms = true) (hsel : Region.noSelect ops = true) {k0 : Nat} {o0 : Oper} (h0 : ops[k0]? = some o0) {st : List Nat} {fl : Nat → Nat} (hf0 : fl k0 = f0) (h24 : f0 = 2 ∨ f0 = 4) :
    ∀ (s seen : List Nat) (a : Act) (w : World), (∀ j, j < ops.size → j ∈ seen ∨ j ∈ s ∨ j = k0 ∨ j ∈ st) → ¬ k0 ∈ seen → okFromA ops ms k0 f0 st (st.map fl) seen s (s.map fl) = true → Down ops (mark ops.size seen) →
      TOpsA P ops Q S f0 o0 (st.map fl) (pk ops.toList st) (s.map fl) (pk ops.toList s) a w → wpAnyT P ops Q S fl (s.length + (st.length + 1)) (mark ops.size seen) a w := by
  have hk0 : k0 < ops.size := (Array.getElem?_eq_some_iff.1 h0).1
  have get0 : ops.toList.getD k0 default = o0 := by simp [List.getD, h0]
  intro s
  induction s with
  | nil =>
    intro seen a w hall hn0 hok hd h
    simp only [okFromA] at hok
    have h' : TOps P ops Q S ((k0 :: st).map fl) (pk ops.toList (k0 :: st)) a w := by
      simp only [List.map_cons, hf0, pk, get0]
      simpa only [TOpsA, List.map_nil, pk] using h
    have := TOps.any hv hsel (k0 :: st) seen _ a w (fun j hj => by
      rcases hall j hj with h1 | h1 | h1 | h1
      · exact .inl h1
      · cases h1
      · exact .inr (by simp [h1])
      · exact .inr (by simp [h1])) (by simpa [hf0] using hok) hd rfl h'
    simpa using this
  | cons k s ih =>
    intro seen a w hall hn0 hok hd h
    simp only [okFromA, List.map_cons, List.tail_cons, List.headD_cons, Bool.and_eq_true] at hok
    obtain ⟨hk, hnext⟩ := hok
    cases hok : ops[k]? with
    | none => simp [hok] at hk
    | some ok =>
      simp only [hok, Bool.and_eq_true] at hk
      obtain ⟨⟨⟨hedge, hkun⟩, hkk⟩, hrest⟩ := hk
      have hkun' : ¬ k ∈ seen := by simpa using hkun
      have hkk0 : k ≠ k0 := by simpa using hkk
      have hlt : k < ops.size := (Array.getElem?_eq_some_iff.1 hok).1
      have rdy : k ∈ Region.ready .any ops (mark ops.size seen) := by
        refine mem_ready.2 ⟨by rw [mark_get true hlt]; simpa using hkun', ok, hok, fun e he hb => ?_⟩
        have hc := List.all_eq_true.1 hedge e.on (mem_edges.2 ⟨e, he, hb, rfl⟩)
        simp only [Bool.and_eq_true] at hc
        rw [mark_get false (blt_lt hc.2)]; exact hc.1
      have hall' : ∀ j, j < ops.size → j ∈ k :: seen ∨ j ∈ s ∨ j = k0 ∨ j ∈ st := by
        intro j hj
        rcases hall j hj with h1 | h1 | h1
        · exact .inl (by simp [h1])
        · rcases List.mem_cons.1 h1 with h1 | h1
          · exact .inl (by simp [h1])
          · exact .inr (.inl h1)
        · exact .inr (.inr h1)
      have hn0' : ¬ k0 ∈ k :: seen := by simp [hn0, Ne.symm hkk0]
      have hd' : Down ops (mark ops.size (k :: seen)) := by rw [← mark_set]; exact hd.step rdy
      have later : ∀ j oj, ops[j]? = some oj → j ≠ k → (mark ops.size seen).getD j true = false → j ∈ s ∨ j = k0 ∨ j ∈ st := by
        intro j oj hoj hjk hun
        have hjlt : j < ops.size := (Array.getElem?_eq_some_iff.1 hoj).1
        rw [mark_get true hjlt] at hun
        rcases hall j hjlt with h1 | h1 | h1
        · simp at hun; exact absurd h1 hun
        · rcases List.mem_cons.1 h1 with h1 | h1
          · exact absurd h1 hjk
          · exact .inl h1
        · exact .inr h1
      have hget : ops.toList.getD k default = ok := by simp [List.getD, hok]
      have next : ∀ a w, TOpsA P ops Q S f0 o0 (st.map fl) (pk ops.toList st) (s.map fl) (pk ops.toList s) a w → wpAnyT P ops Q S fl (s.length + (st.length + 1)) ((mark ops.size seen).setIfInBounds k true) a w := by
        intro a w h
        rw [mark_set]
        exact ih (k :: seen) a w hall' hn0' hnext hd' h
      simp only [List.map_cons, pk, hget] at h
      rw [TOpsA_cons] at h
      have hlen : (k :: s).length + (st.length + 1) = (s.length + (st.length + 1)) + 1 := by simp; omega
      rw [hlen]
      have zipm : ∀ (s : List Nat) (j : Nat), j ∈ s → (j, fl j) ∈ s.zip (s.map fl) := by
        intro s j hj
        induction s with
        | nil => cases hj
        | cons x s ih2 =>
          rcases List.mem_cons.1 hj with rfl | hj
          · simp
          · simp only [List.map_cons, List.zip_cons_cons]; exact List.mem_cons_of_mem _ (ih2 hj)
      have value : fl k = 0 ∨ fl k = 3 → ∀ j oj, ops[j]? = some oj → j ≠ k → (mark ops.size seen).getD j true = false → (ms.getD j 0).testBit k = true ∨ (ok.apart ops oj = true ∧ Mayb (fl k) (fl j)) := by
        intro hf j oj hoj hjk hun
        rw [if_pos (by rcases hf with h | h <;> simp [h])] at hrest
        have hj := later j oj hoj hjk hun
        have hm : (j, fl j) ∈ (s ++ k0 :: st).zip (s.map fl ++ f0 :: st.map fl) := by
          have e : s.map fl ++ f0 :: st.map fl = (s ++ k0 :: st).map fl := by simp [hf0]
          rw [e]
          exact zipm _ j (by rcases hj with h1 | h1 | h1 <;> simp [h1])
        have := List.all_eq_true.1 hrest _ hm
        simp only [hoj, Bool.and_eq_true, Bool.or_eq_true, beq_iff_eq] at this
        rcases this.2 with h1 | ⟨h1, h2⟩
        · exact .inl h1
        · refine .inr ⟨h1, ?_⟩
          unfold Mayb
          omega
      by_cases hf : fl k = 0
      · rw [if_pos hf] at h
        obtain ⟨v, hy, h⟩ := h
        refine firstT hv hsel hok (.inl hf) _ _ a w hd rdy (value (.inl hf)) (by rw [hf]; simpa [SS] using hy) (by omega) (next _ _ h)
      · rw [if_neg hf] at h
        by_cases hf3 : fl k = 3
        · rw [if_pos hf3] at h
          obtain ⟨hS, v, hy, h⟩ := h
          exact firstT hv hsel hok (.inr (.inr hf3)) _ _ a w hd rdy (value (.inr hf3)) (by rw [hf3]; simpa [SS] using hy) (fun _ => hS) (next _ _ h)
        rw [if_neg hf3] at h
        rw [if_neg (by simp [hf, hf3])] at hrest
        simp only [Bool.and_eq_true, beq_iff_eq] at hrest
        obtain ⟨⟨hf2, hwait⟩, hokf⟩ := hrest
        have hf2' : fl k = 2 := by simpa using hf2
        obtain ⟨hw1, hw0, h1, h2⟩ := h
        refine ⟨fun h0 => (by rw [h0] at rdy; cases rdy), fun j hj => ?_⟩
        by_cases hjk : j = k
        · subst hjk
          exact stepT2 hok hf2' hw1 (Oper.wp_mono (fun a w h => next a w h) h1)
        · by_cases hj0 : j = k0
          · subst hj0
            refine stepT24 h0 hf0 h24 hw0 (Oper.wp_mono (fun a w h => ⟨h.1, ?_⟩) h2)
            have h := h.2
            have hd0 : Down ops (mark ops.size (j :: seen)) := by rw [← mark_set]; exact hd.step hj
            have h' : TOps P ops Q S ((k :: (s ++ st)).map fl) (pk ops.toList (k :: (s ++ st))) a w := by
              simp only [List.map_cons, List.map_append, pk, hget, pk_append]
              simpa only [List.cons_append] using h
            have := TOps.any hv hsel (k :: (s ++ st)) (j :: seen) _ a w (fun i hi => by
              rcases hall i hi with h1 | h1 | h1 | h1
              · exact .inl (by simp [h1])
              · rcases List.mem_cons.1 h1 with h1 | h1
                · exact .inr (by simp [h1])
                · exact .inr (by simp [h1])
              · exact .inl (by simp [h1])
              · exact .inr (by simp [h1])) (by simpa using hokf) hd0 rfl h'
            rw [mark_set]
            have e : (k :: (s ++ st)).length = s.length + (st.length + 1) := by simp; omega
            rw [e] at this
            exact this
          · obtain ⟨hun, oj, hoj, _⟩ := mem_ready.1 hj
            have hj' := later j oj hoj hjk (by
              cases hb : (mark ops.size seen)[j]? with
              | none => simp [hb] at hun
              | some b => simp [hb] at hun; simp [hb, hun])
            have hm : j ∈ s ++ st := by
              rcases hj' with h1 | h1 | h1
              · simp [h1]
              · exact absurd h1 hj0
              · simp [h1]
            have := List.all_eq_true.1 hwait j hm
            simp only [Bool.and_eq_true] at this
            exact absurd hj (waits_spec hv hd (by rw [mark_get false hlt]; simpa using hkun') j this.2 oj hoj).2

def OpA (P : Program) (c : Cx) (n : Nat) (ops : Array Oper) (Q : Exit → Act → World → Prop) (Ls : List As) (f0 : Nat) (o0 : Oper) (ft : List Nat) (tail : List Oper) (fl : List Nat) (l : List Oper) (fr : Fr) (L : List As) : Prop :=
  ∀ a w, Fits n fr a → Sat L c w → TOpsA P ops Q (Sat Ls c) f0 o0 ft tail fl l a w
theorem zip_mem {k : Nat} : ∀ (u v : List Nat), u.length = v.length → k ∈ u → ∃ g, (k, g) ∈ u.zip v
  | [], _, _, h => by cases h
  | x :: u, [], h, _ => by simp at h
  | x :: u, y :: v, h, hk => by
    rcases List.mem_cons.1 hk with rfl | hk
    · exact ⟨y, by simp⟩
    · obtain ⟨g, hg⟩ := zip_mem u v (by simpa using h) hk
      exact ⟨g, by simp only [List.zip_cons_cons]; exact List.mem_cons_of_mem _ hg⟩
theorem okFromA_nodup {ms : Array Nat} {k0 f0 : Nat} {st ft : List Nat} (hl2 : st.length = ft.length) : ∀ (s seen fs : List Nat), s.length = fs.length → okFromA ops ms k0 f0 st ft seen s fs = true → (s ++ k0 :: st).Nodup := by
  intro s
  induction s with
  | nil =>
    intro seen fs hl h
    exact okFrom_nodup (k0 :: st) seen (f0 :: ft) (by simp [hl2]) h
  | cons k s ih =>
    intro seen fs hl h
    cases fs with
    | nil => simp at hl
    | cons f fs =>
      simp only [okFromA, Bool.and_eq_true, List.tail_cons] at h
      obtain ⟨h1, h2⟩ := h
      have hl' : s.length = fs.length := by simpa using hl
      refine List.nodup_cons.2 ⟨fun hk => ?_, ih _ _ hl' h2⟩
      split at h1
      · simp only [Bool.and_eq_true] at h1
        obtain ⟨⟨_, hkk⟩, hr⟩ := h1
        have hkk' : k ≠ k0 := by simpa using hkk
        by_cases hf : ((f :: fs).headD 2 == 0 || (f :: fs).headD 2 == 3) = true
        · rw [if_pos hf] at hr
          have hm : ∃ g, (k, g) ∈ (s ++ k0 :: st).zip (fs ++ f0 :: ft) := by
            exact zip_mem _ _ (by simp [hl', hl2]) hk
          obtain ⟨g, hg⟩ := hm
          have := List.all_eq_true.1 hr _ hg
          simp at this
        · rw [if_neg hf] at hr
          simp only [Bool.and_eq_true] at hr
          have hm : k ∈ s ++ st := by
            rcases List.mem_append.1 hk with h | h
            · simp [h]
            · rcases List.mem_cons.1 h with h | h
              · exact absurd h hkk'
              · simp [h]
          have := List.all_eq_true.1 hr.1.2 k hm
          simp at this
      · cases h1

theorem cd_drawA {c : Cx} {n : Nat} {fr : Fr} {L : List As} (Ls : List As) {id : Nat} {l : List Oper} (sp : List Nat) (k0 f0 : Nat) (st fp ft : List Nat) (hm : P.follows .mixedOrders = true) (hok : okDrawA l.toArray sp k0 f0 st fp ft = true)
    (h : OpA P c n l.toArray Q Ls f0 (l.getD k0 default) ft (pk l st) fp (pk l sp) fr L) : Cd P c n (.region id l.toArray true) fr L Q := fun a w hf hs => by
  have hs' : Sat L c { w with drawn := w.drawn + 1 } := Sat.upd hs (fun k o h => h) rfl rfl rfl
  simp only [okDrawA, Bool.and_eq_true, beq_iff_eq] at hok
  obtain ⟨⟨⟨⟨⟨⟨⟨⟨h1, h2⟩, h3⟩, h4⟩, h5⟩, h6⟩, h7⟩, h8⟩, h9⟩ := hok
  have h24 : f0 = 2 ∨ f0 = 4 := by simpa using h9
  have hl : (sp ++ k0 :: st).length = (fp ++ f0 :: ft).length := by simp [h4, h5]
  have hmap := flagOf_map (sp ++ k0 :: st) (fp ++ f0 :: ft) hl (okFromA_nodup h5.symm sp [] fp h4.symm h7)
  rw [List.map_append, List.map_cons] at hmap
  obtain ⟨m1, m2⟩ := List.append_inj hmap (by simp [h4])
  injection m2 with m2 m3
  have e : mark l.toArray.size [] = Array.replicate l.toArray.size false := by
    apply Array.ext
    · simp [mark]
    · intro i h1 h2; simp [mark]
  have h0 : l.toArray[k0]? = some (l.getD k0 default) := by
    cases hk : l[k0]? with
    | none => simp [hk] at h8
    | some o => simp [List.getD, hk]
  refine wp_region_any hm ?_
  have key := TOpsA.any (P := P) (Q := Q) (S := Sat Ls c) (f0 := f0) (ops := l.toArray) h2 h1 h0 (st := st) (fl := flagOf (sp ++ k0 :: st) (fp ++ f0 :: ft)) m2 h24 sp [] a { w with drawn := w.drawn + 1 } (fun j hj => by
      have := List.all_eq_true.1 h6 j (List.mem_range.2 hj)
      simp at this
      rcases this with h | h | h
      · exact .inr (.inl h)
      · exact .inr (.inr (.inl h))
      · exact .inr (.inr (.inr h))) (by simp) (by rw [m1, m3]; exact h7) ?_ (by rw [m1, m3]; simpa using h a _ hf hs')
  · rw [e] at key
    have hsz : sp.length + (st.length + 1) = l.toArray.size := by omega
    rw [hsz] at key
    exact key.any
  · intro j o ho hj
    have hjlt : j < l.toArray.size := (Array.getElem?_eq_some_iff.1 ho).1
    rw [mark_get false hjlt] at hj
    simp at hj
/-! ### Rules -/
variable {c : Cx} {n : Nat} {fr : Fr} {L Ls : List As} {f0 : Nat} {o0 : Oper} {ft : List Nat} {tail : List Oper}
variable {d : Nat} {ty : TypeId} {pos : String} {aft : Array Edge} {fl : List Nat} {rest : List Oper}
theorem opA_nil (h : Op P c n ops Q Ls (f0 :: ft) (o0 :: tail) fr L) : OpA P c n ops Q Ls f0 o0 ft tail fl [] fr L := fun a w hf hs => by
  unfold TOpsA
  exact h a w hf hs
theorem opA_y {op : Go.Op} {v : Value} (hy : Yf P n fr ⟨some d, op, ty, pos, aft, none⟩ v) (hd : Nat.blt d n = true) (h : OpA P c n ops Q Ls f0 o0 ft tail fl rest ((d, v) :: fr) L) :
    OpA P c n ops Q Ls f0 o0 ft tail (0 :: fl) (⟨some d, op, ty, pos, aft, none⟩ :: rest) fr L := fun a w hf hs => by
  rw [TOpsA_cons, if_pos rfl]
  exact ⟨v, .inl ⟨by simp [Region.wanted], fun w' _ => hy a w' hf⟩, h _ _ (hf.put (blt_lt hd) v) hs⟩
theorem opA_e {op : Go.Op} {K : Value → List As → Prop} (he : Ef P c n fr L ⟨some d, op, ty, pos, aft, none⟩ K) (hd : Nat.blt d n = true) (h0 : o0.guard = none) (h24 : f0 = 2 ∨ f0 = 4) (hA : Op P c n ops Q Ls (f0 :: 2 :: (fl ++ ft)) (o0 :: ⟨some d, op, ty, pos, aft, none⟩ :: (rest ++ tail)) fr L)
    (h : ∀ v L', K v L' → OpA P c n ops Q Ls f0 o0 ft tail fl rest ((d, v) :: fr) L') :
    OpA P c n ops Q Ls f0 o0 ft tail (2 :: fl) (⟨some d, op, ty, pos, aft, none⟩ :: rest) fr L := fun a w hf hs => by
  have hw0 : Region.wanted o0 (yielded ops a.tmps) = true := by simp [Region.wanted, h0]
  have h1 := hA a w hf hs
  unfold TOps at h1
  rw [if_pos hw0] at h1
  rw [TOpsA_cons, if_neg (by decide), if_neg (by decide)]
  refine ⟨by simp [Region.wanted], hw0, he NoX a w hf hs _ fun v L' w' hk hs' => h v L' hk _ _ (hf.put (blt_lt hd) v) hs', ?_⟩
  rcases h24 with rfl | rfl
  · exact Oper.wp_mono (fun a w h => ⟨fun e => (by cases e), h⟩) h1
  · exact Oper.wp_mono (fun a w h => ⟨fun _ => h.1, h.2⟩) h1
theorem opA_rs {op : Go.Op} {v : Value} (hy : Yl P c n fr Ls ⟨some d, op, ty, pos, aft, none⟩ v) (hd : Nat.blt d n = true) (hS : ∀ w, Sat L c w → Sat Ls c w) (h : OpA P c n ops Q Ls f0 o0 ft tail fl rest ((d, v) :: fr) L) :
    OpA P c n ops Q Ls f0 o0 ft tail (3 :: fl) (⟨some d, op, ty, pos, aft, none⟩ :: rest) fr L := fun a w hf hs => by
  rw [TOpsA_cons, if_neg (by decide), if_pos rfl]
  exact ⟨hS w hs, v, .inl ⟨by simp [Region.wanted], fun w' hw' => hy a w' hf hw'⟩, h _ _ (hf.put (blt_lt hd) v) hs⟩
theorem opA_lds {t : TypeId} {x : Operand} {b i : Nat} {T : TypeId} {l : List Value} {M : List As} {v : Value} (ht : scalarT P t = true) (hx : ev fr x = some (.pointer (some ⟨b, i, none⟩))) (hd : Nat.blt d n = true)
    (hr : Rem Ls (pt b T l) M) (hv : l[i]? = some v) (hS : ∀ w, Sat L c w → Sat Ls c w) (h : OpA P c n ops Q Ls f0 o0 ft tail fl rest ((d, v) :: fr) L) : OpA P c n ops Q Ls f0 o0 ft tail (3 :: fl) (⟨some d, .load t x, ty, pos, aft, none⟩ :: rest) fr L := opA_rs (y_ld ht hx (rd_pt hr hv)) hd hS h
theorem opA_ldas {t : TypeId} {x : Operand} {b i k : Nat} {T : TypeId} {l cs : List Value} {M : List As} (ht : aggK P t = some k) (hx : ev fr x = some (.pointer (some ⟨b, i, none⟩))) (hd : Nat.blt d n = true)
    (hr : Rem Ls (pt b T l) M) (hv : (l.drop i).take k = cs) (hk : cs.length = k) (hS : ∀ w, Sat L c w → Sat Ls c w) (h : OpA P c n ops Q Ls f0 o0 ft tail fl rest ((d, .agg cs.toArray) :: fr) L) : OpA P c n ops Q Ls f0 o0 ft tail (3 :: fl) (⟨some d, .load t x, ty, pos, aft, none⟩ :: rest) fr L := opA_rs (y_ldk ht hk hx (rds_k hr hk hv)) hd hS h
theorem opA_c {f : Nat} {xs : List Operand} {ats : Array TypeId} {vs : List Value} {Lp F : List As} {R : Value → List As → Prop}
    (hc : callable P f = true) (hx : evs fr xs = some vs) (hd : Nat.blt d n = true) (h0 : o0.guard = none) (h24 : f0 = 2 ∨ f0 = 4) (h : ∀ e, c.le e → Ct P f vs.toArray e Lp R) (hs : Sel L Lp F)
    (hk : ∀ v M, R v M → ∀ G, M ++ F = G → OpA P c n ops Q Ls f0 o0 ft tail fl rest ((d, v) :: fr) G)
    (hA : Op P c n ops Q Ls (f0 :: 2 :: (fl ++ ft)) (o0 :: ⟨some d, .call { callee := .value (.func f), args := xs.toArray, argTypes := ats }, ty, pos, aft, none⟩ :: (rest ++ tail)) fr L) :
    OpA P c n ops Q Ls f0 o0 ft tail (2 :: fl) (⟨some d, .call { callee := .value (.func f), args := xs.toArray, argTypes := ats }, ty, pos, aft, none⟩ :: rest) fr L :=
  opA_e (ef_call hc hx (Ct.frame hs h)) hd h0 h24 hA fun v L' ⟨M, hR, e⟩ => hk v M hR L' e.symm
theorem opA_build {t : TypeId} {xs : List (Nat × Operand)} {vs : List (Nat × Value)} {ps : List (Nat × Nat)} {z cs : List Value} (hp : placesK P t = some ps) (hz : zeroC P t = some z) (hx : evps fr xs = some vs) (hd : Nat.blt d n = true) (hf : fillL ps z vs = some cs)
    (h : OpA P c n ops Q Ls f0 o0 ft tail fl rest ((d, .agg cs.toArray) :: fr) L) : OpA P c n ops Q Ls f0 o0 ft tail (0 :: fl) (⟨some d, .build t xs.toArray, ty, pos, aft, none⟩ :: rest) fr L := opA_y (y_build hp hz hx hf) hd h
theorem y_mkfs {dd : Option Tmp} {g : Option (Nat × Bool)} {fn : Fn} {xs : List Operand} {vs : List Value} (hx : evs fr xs = some vs) : Yf P n fr ⟨dd, .makeFunc fn #[] xs.toArray, ty, pos, aft, g⟩ (.func fn #[] vs.toArray) := fun A w hf => by
  have hv := hf.evals hx
  simp only [execOp, Instr.makeFunc, List.map_toArray, hv]
  simp [Sem.run]
theorem y_extl {dd : Option Tmp} {g : Option (Nat × Bool)} {x : Operand} {i : Nat} {vs : List Value} {v : Value} (hx : ev fr x = some (.tuple vs.toArray)) (hv : vs[i]? = some v) : Yf P n fr ⟨dd, .extract x i, ty, pos, aft, g⟩ v := y_ext hx (by simpa using hv)
theorem y_ieqE {dd : Option Tmp} {g : Option (Nat × Bool)} {x : Operand} {t u T : TypeId} {v : Value} (hp : ∃ ms, P.underlying t = some (.interface ms)) (hx : ev fr x = some (.iface T v)) :
    Yf P n fr ⟨dd, .binOp .eql t x (.const .nilIface) u, ty, pos, aft, g⟩ (.bool false) := let ⟨_, h⟩ := hp; y_ieq h hx
theorem op_e04 {op : Go.Op} {K : Value → List As → Prop} (he : Ef P c n fr L ⟨none, op, ty, pos, aft, none⟩ K) (h : ∀ v L', K v L' → (∀ w, Sat L' c w → Sat Ls c w) ∧ Op P c n ops Q Ls fl rest fr L') :
    Op P c n ops Q Ls (4 :: fl) (⟨none, op, ty, pos, aft, none⟩ :: rest) fr L := fun a w hf hs => by
  unfold TOps
  rw [if_pos (by simp [Region.wanted])]
  simp only [List.headD_cons, List.tail_cons]
  exact he NoX a w hf hs _ fun v L' w' hk hs' => ⟨(h v L' hk).1 w' hs', (h v L' hk).2 _ _ hf hs'⟩
theorem op_st14 {t : TypeId} {x y : Operand} {b i : Nat} {T : TypeId} {l l' : List Value} {M : List As} {v : Value} (ht : sizeK P t = some 1) (hx : ev fr x = some (.pointer (some ⟨b, i, none⟩))) (hy : ev fr y = some v)
    (h1 : v.oneCell' = true) (hr : Rem L (pt b T l) M) (hlen : Nat.blt i l.length = true) (hset : l.set i v = l') (hS : ∀ w, Sat (pt b T l' :: M) c w → Sat Ls c w) (h : Op P c n ops Q Ls fl rest fr (pt b T l' :: M)) :
    Op P c n ops Q Ls (4 :: fl) (⟨none, .store t x y, ty, pos, aft, none⟩ :: rest) fr L := by
  have hi := blt_lt hlen
  refine op_e04 (ef_st (cs := [v]) hx hy (by cases v <;> first | rfl | cases h1) ht hr (by simp; omega) (by simp [ones, h1])) fun _ _ e => ?_
  rw [e, splice_one l i v hi, hset]; exact ⟨hS, h⟩
theorem op_sta4 {t : TypeId} {x y : Operand} {b i k : Nat} {T : TypeId} {l l' cs : List Value} {M : List As} (ht : sizeK P t = some k) (hx : ev fr x = some (.pointer (some ⟨b, i, none⟩))) (hy : ev fr y = some (.agg cs.toArray)) (hk : cs.length = k)
    (h1 : ones cs = true) (hr : Rem L (pt b T l) M) (hlen : i + k ≤ l.length) (hset : splice l i cs = l') (hS : ∀ w, Sat (pt b T l' :: M) c w → Sat Ls c w) (h : Op P c n ops Q Ls fl rest fr (pt b T l' :: M)) :
    Op P c n ops Q Ls (4 :: fl) (⟨none, .store t x y, ty, pos, aft, none⟩ :: rest) fr L := by
  subst hk
  refine op_e04 (ef_st (cs := cs) hx hy (by simp [Value.cells]) ht hr hlen h1) fun _ _ e => ?_
  rw [e, hset]; exact ⟨hS, h⟩
theorem op_mdel0 {t kT eT : TypeId} {kk : IntKind} {x y : Operand} {b : Nat} {k : Int} {M : List (Int × Value)} {F : List As} {ats : List TypeId} (hm : P.underlying t = some (.map kT eT)) (hk : P.underlying kT = some (.int kk)) (hat : ats[0]? = some t)
    (hx : ev fr x = some (.map (some b))) (hy : ev fr y = some (.int kk k)) (hr : Rem L (mp b kk M) F) (h : Op P c n ops Q Ls fl rest fr (mp b kk (MDel k M) :: F)) :
    Op P c n ops Q Ls (2 :: fl) (⟨none, .call { callee := .builtin .delete, args := #[x, y], argTypes := ats.toArray }, ty, pos, aft, none⟩ :: rest) fr L := op_e0 (ef_mdel (by simpa using hat) hm hk hx hy hr) fun _ _ ⟨hv, e⟩ => by rw [e]; exact h
end
end Go.SL
/- Slices held against nil, empty literals, a slice's rest, what is cleared; comparisons by the kernel. Over any program. -/
namespace Go.SL
section
variable {P : Program} {c : Cx} {n : Nat} {ops : Array Oper} {Q : Exit → Act → World → Prop} {fr : Fr} {L Ls M : List As} {t u ty : TypeId} {pos : String} {aft : Array Edge} {fl : List Nat} {rest : List Oper} {d : Nat} {dd : Option Tmp} {g : Option (Nat × Bool)}
theorem run_eq_slice_nil {e : TypeId} (hp : P.underlying t = some (.slice e)) (a : Addr) (m k : Nat) (w : World) : (Op.equal t (.slice (some a) m k) (.slice none 0 0)).run P w = .ok false w := by
  have h : ∀ d : Nat, (Op.equalIn (d + 1) t (.slice (some a) m k) (.slice none 0 0)).run P w = .ok false w := fun d => by simp [Op.equalIn, run_underlying hp, Sem.run]
  exact h 9999
theorem y_sleqn {x : Operand} {a : Addr} {m k : Nat} {e : TypeId} (hp : P.underlying t = some (.slice e)) (hx : ev fr x = some (.slice (some a) m k)) :
    Yf P n fr ⟨dd, .binOp .eql t x (.const (.slice none 0 0)) u, ty, pos, aft, g⟩ (.bool false) := fun A w hf => by
  have hn : A.eval (.const (.slice none 0 0)) = .slice none 0 0 := rfl
  simp only [execOp, hf.eval hx, hn, eqGuard, binOp]
  simp [run_eq_slice_nil hp, Sem.run]
theorem y_cmpc {op : BinOp} {x y : Operand} {a b : Value} {r : Bool} (hx : ev fr x = some a) (hy : ev fr y = some b) (h : ∀ w, (do eqGuard op t x y a b; binOp op t a b : Sem Value).run P w = .ok (.bool r) w) : Yf P n fr ⟨dd, .binOp op t x y u, ty, pos, aft, g⟩ (.bool r) := fun A w hf => by
  have e : (execOp A.eval ⟨dd, .binOp op t x y u, ty, pos, aft, g⟩) = (do pure (.value (← (do eqGuard op t x y a b; binOp op t a b : Sem Value)))) := by
    simp only [execOp, hf.eval hx, hf.eval hy]
  rw [e, Sem.run_bind, h w]
  simp [Sem.run]
/-- s[i:] -/
theorem y_slo {e sz bs m k : Nat} {x y : Operand} {b o : Nat} {kd : IntKind} {i : Int} {j : Nat} (hk : sliceK P t = some (e, sz, bs)) (hx : ev fr x = some (.slice (some ⟨b, o, none⟩) m k)) (hy : ev fr y = some (.int kd i))
    (hj : i = (j : Int)) (hle : j ≤ m) (hne : k ≠ j) : Yf P n fr ⟨dd, .slice t x (some y) none none, ty, pos, aft, g⟩ (.slice (some ⟨b, o + j * sz, none⟩) (m - j) (k - j)) := fun a w hf => by
  subst hj
  unfold sliceK at hk
  split at hk
  · rename_i e' hu
    cases hi : P.info? e' with
    | none => simp [hi] at hk
    | some inf =>
      simp [hi] at hk
      obtain ⟨rfl, rfl, rfl⟩ := hk
      simp [execOp, hf.eval hx, hf.eval hy, Instr.sliceAt, Instr.slice, Instr.sliceBounds, Instr.sliceBound, asIntOf, run_underlying hu, run_sizeOf w hi, Program.cellsOf, hi, hle, hne, add_mk, Sem.run]
  · cases hk
/-- s[i:], whatever the capacity is. -/
theorem y_sloi {e sz bs m k : Nat} {x y : Operand} {b o : Nat} {kd : IntKind} {i : Int} {j : Nat} (hk : sliceK P t = some (e, sz, bs)) (hx : ev fr x = some (.slice (some ⟨b, o, none⟩) m k)) (hy : ev fr y = some (.int kd i))
    (hj : i = (j : Int)) (hle : j ≤ m) : Yf P n fr ⟨dd, .slice t x (some y) none none, ty, pos, aft, g⟩ (.slice (if k = j then some ⟨b, o, none⟩ else some ⟨b, o + j * sz, none⟩) (m - j) (k - j)) := fun a w hf => by
  subst hj
  unfold sliceK at hk
  split at hk
  · rename_i e' hu
    cases hi : P.info? e' with
    | none => simp [hi] at hk
    | some inf =>
      simp [hi] at hk
      obtain ⟨rfl, rfl, rfl⟩ := hk
      by_cases hne : k = j
      · simp [execOp, hf.eval hx, hf.eval hy, Instr.sliceAt, Instr.slice, Instr.sliceBounds, Instr.sliceBound, asIntOf, run_underlying hu, run_sizeOf w hi, Program.cellsOf, hi, hle, hne, add_mk, Sem.run]
      · simp [execOp, hf.eval hx, hf.eval hy, Instr.sliceAt, Instr.slice, Instr.sliceBounds, Instr.sliceBound, asIntOf, run_underlying hu, run_sizeOf w hi, Program.cellsOf, hi, hle, hne, add_mk, Sem.run]
  · cases hk
/-- A slice literal without elements. -/
theorem op_bslice0 {e sz by_ : Nat} (hk : sliceK P t = some (e, sz, by_)) (hd : Nat.blt d n = true) (h : ∀ b, Op P c n ops Q Ls fl rest ((d, .slice (some ⟨b, 0, none⟩) 0 0) :: fr) (pt b e [] :: L)) :
    Op P c n ops Q Ls (2 :: fl) (⟨some d, .buildSlice t 0 #[], ty, pos, aft, none⟩ :: rest) fr L := by
  refine op_e (K := fun v L' => ∃ b, v = .slice (some ⟨b, 0, none⟩) 0 0 ∧ L' = pt b e [] :: L) (fun X a w hf hs N hN => ?_) hd fun _ _ ⟨b, hv, hl⟩ => by subst hv; subst hl; exact h b
  unfold sliceK at hk
  split at hk
  · rename_i e' hu
    cases hi : P.info? e' with
    | none => simp [hi] at hk
    | some inf =>
      simp [hi] at hk; obtain ⟨rfl, h2, h3⟩ := hk
      unfold Oper.wp
      have : (execOp a.eval ⟨some d, .buildSlice t 0 #[], ty, pos, aft, none⟩).run P w = .ok (.value (.slice (some ⟨w.heap.size, 0, none⟩) 0 0)) { w with heap := w.heap.push (.cells #[] e') } := by
        simp [execOp, Instr.buildSlice, run_underlying hu, sizeOf, typeInfo, hi, Instr.fill, newRow, newObj, Sem.run]
        exact congrArg (fun q => World.alloc w (Obj.cells q e')) (by simp)
      rw [this]
      exact hN _ _ _ ⟨_, rfl, rfl⟩ (Sat.newPt hs e' [])
  · cases hk
/-- A slice cleared. -/
theorem op_clear {e sz by_ b o m k : Nat} {x : Operand} {z l l' : List Value} {T : TypeId} {ats : List TypeId} (hk : sliceK P t = some (e, sz, by_)) (hz : zeroC P e = some z) (hat : ats[0]? = some t) (hx : ev fr x = some (.slice (some ⟨b, o, none⟩) m k)) (hm : 0 < m) (hzs : z.length = sz) (hsz : 0 < sz) (h1 : ones z = true)
    (hr : Rem L (pt b T l) M) (hlen : o + m * sz ≤ l.length) (hset : splice l o (List.replicate m z).flatten = l') (h : Op P c n ops Q Ls fl rest fr (pt b T l' :: M)) :
    Op P c n ops Q Ls (2 :: fl) (⟨none, .call { callee := .builtin .clear, args := #[x], argTypes := ats.toArray }, ty, pos, aft, none⟩ :: rest) fr L := by
  refine op_e0 (K := fun _ L' => L' = pt b T l' :: M) (fun X a w hf hs N hN => ?_) fun _ _ e => by rw [e]; exact h
  have hti : ∃ inf, P.underlying t = some (.slice e) ∧ P.info? e = some inf ∧ inf.size = sz := by
    unfold sliceK at hk
    split at hk
    · rename_i e' hu
      cases hi : P.info? e' with
      | none => simp [hi] at hk
      | some inf => simp [hi] at hk; obtain ⟨rfl, h2, h3⟩ := hk; exact ⟨inf, hu, hi, h2⟩
    · cases hk
  obtain ⟨inf, hu, hi, hsz'⟩ := hti
  have hzz : ∃ u, inf.zero = some u ∧ u.cells.toList = z := by
    unfold zeroC at hz
    rw [hi] at hz
    cases hzz : inf.zero with
    | none => simp [hzz] at hz
    | some u => simp [hzz] at hz; exact ⟨u, rfl, hz⟩
  obtain ⟨uz, hzv, huz⟩ := hzz
  have huz' : uz.cells = z.toArray := by rw [← huz]
  have hzc : (Builtin.zeroCells uz.cells m).toList = (List.replicate m z).flatten := by
    have := madeCells_rep (z := z) hzs hsz m
    unfold madeCells at this
    have e2 : Builtin.zeroCells uz.cells m = (List.replicate m z).flatten.toArray := by
      rw [← this, huz']
      simp [Builtin.zeroCells, hzs]
    rw [e2]
  have hfl : (List.replicate m z).flatten.length = m * sz := by simp [hzs]
  have hon : ones (List.replicate m z).flatten = true := by
    refine List.all_eq_true.2 fun v hv => ?_
    obtain ⟨l, hl, hv⟩ := List.mem_flatten.1 hv
    rw [(List.mem_replicate.1 hl).2] at hv
    exact List.all_eq_true.1 h1 v hv
  obtain ⟨w', hw, hsat⟩ := Sat.storeRow (P := P) (b := b) (i := o) (cs := (List.replicate m z).flatten) hr (by rw [hfl]; exact hlen) hon hs
  rw [hset] at hsat
  have hm0 : m ≠ 0 := by omega
  obtain ⟨m', rfl⟩ : ∃ m', m = m' + 1 := ⟨m - 1, by omega⟩
  have hrun : (Builtin.clear_ ats.toArray ty #[.slice (some ⟨b, o, none⟩) (m' + 1) k]).run P w = .ok (.tuple #[]) w' := by
    simp [Builtin.clear_, hat, run_underlying hu, zeroValue, typeInfo, hi, hzv, hzc, hw]
  unfold Oper.wp
  have : (execOp a.eval ⟨none, .call { callee := .builtin .clear, args := #[x], argTypes := ats.toArray }, ty, pos, aft, none⟩).run P w = .ok (.value (.tuple #[])) w' := by
    simp [execOp, resolve, invoke, builtin, hf.eval hx, hrun, Sem.run]
  rw [this]
  exact hN undef _ w' rfl hsat
theorem op_cv4 {d f : Nat} {x : Operand} {xs : List Operand} {ats : Array TypeId} {ty : TypeId} {pos : String} {aft : Array Edge} {fl : List Nat} {rest : List Oper} {vs cap as : List Value} {Lp F : List As} {R : Value → List As → Prop}
    (hc : callable P f = true) (hv : ev fr x = some (.func (.func f) #[] cap.toArray)) (hx : evs fr xs = some vs) (hd : Nat.blt d n = true) (ha : vs ++ cap = as) (h : ∀ e, c.le e → Ct P f as.toArray e Lp R) (hs : Sel L Lp F)
    (hk : ∀ v M, R v M → ∀ G, M ++ F = G → (∀ w, Sat G c w → Sat Ls c w) ∧ Op P c n ops Q Ls fl rest ((d, v) :: fr) G) :
    Op P c n ops Q Ls (4 :: fl) (⟨some d, .call { callee := .value x, args := xs.toArray, argTypes := ats }, ty, pos, aft, none⟩ :: rest) fr L :=
  op_e4 (ef_callv hc hv hx (ha ▸ Ct.frame hs h)) hd fun v L' ⟨M, hR, e⟩ => hk v M hR L' e.symm
/-- A byte of a constant string. -/
theorem y_sidxc {x y : Operand} {s : ByteArray} {kd : IntKind} {i : Int} {j k : Nat} (hu : P.underlying t = some .string) (hx : ev fr x = some (.string s)) (hy : ev fr y = some (.int kd i)) (hj : i = (j : Int)) (hk : s[j]?.map UInt8.toNat = some k) :
    Yf P n fr ⟨dd, .index t x y, ty, pos, aft, g⟩ (.int .u8 (k : Int)) := fun a w hf => by
  subst hj
  cases h1 : s[j]? with
  | none => simp [h1] at hk
  | some b =>
    simp only [h1, Option.map_some, Option.some.injEq] at hk
    simp [execOp, hf.eval hx, hf.eval hy, Instr.index, asIntOf, run_underlying hu, h1, hk, Sem.run]
end
end Go.SL
