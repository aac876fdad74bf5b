/- TopLine answers true at every input, and its arguments read as they did: part 6; conditions: the row's own. -/
import Derived.Test.YtfkadaodnaaceaaGreatDoorTie
import Derived.Test.YtfkadaodnaaceaaGreatDoorCards
import Derived.ProofKit
import Derived.LaidMore
import Derived.OpenShut
import Derived.Stop.Joined
import Derived.Carry
import Derived.Deep.Slices
import Derived.Test.YtfkadaodnaaceaaGreatDoorM5
set_option linter.all false
set_option linter.unusedVariables false
set_option linter.unusedSimpArgs false
/- TopLine's statement, out of its walk. -/
namespace Go.Proofs.YtfkadaodnaaceaaGreatDoor
open Go Go.SL Go.ChangeShapes Go.WideShapes Go.RowKit
set_option maxRecDepth 100000
/-- As returnsInHanded_of_change_and, beside it the world's shape. -/
theorem returns_shaped {H : Type} {enc : TypeId × Value → H} {a : Assume} {C : Checked} {os : Os} {f : FuncId} {fn : Func} {s : ChangeSpec} {conds : List PathCond} {apart fresh handsOn again : Bool} {X : World → Array Value → Prop}
    (hX : ∀ (w w' : World) (args : Array Value), w.heap = w'.heap → X w args → X w' args)
    (own : ownKnob C.prog.godebug = none) (started : os.Started) (noInit : C.prog.inits.idxOf? f = none) (hfn : C.prog.funcs[f]? = some fn)
    (witness : ∃ (w : World) (tape : Tape) (i : Input), w.os = os ∧ (w.forCall tape i).Shaped C.prog ∧ i.vars = [] ∧ Input.okWide C.prog (w.forCall tape i) .any w.heap.size f i ∧
      ((s.pre enc C.prog fn conds apart (w.forCall tape i).memory i.args ∧ X (w.forCall tape i).memory i.args) ∧ sizedMet enc C.prog fn (OpenSpec.ofChange s) apart (w.forCall tape i).memory i.args) ∧ a.holds C.prog (lone (Frame.enter C.prog f i.args .normal) [] (w.forCall tape i)))
    (contract : ∀ (W : World) (base : Nat) (args : Array Value) (ds gs : List (DataW H)) (before : List MemPlace), W.ShapedOpen C.prog →
      (∀ (j : Nat) t v, fn.params[j]? = some t → args[j]? = some v → Value.okWide C.prog W .any base t v) →
      DataW.Whole enc C.prog fn.params.toList s.vars apart W args.toList ds gs before →
      conds.all (PathCond.test C.prog ⟨fn.params.toList, ds, s.plain.varTypes C.prog, gs⟩) = true →
      (DataW.weightsEach C.prog (fn.params.toList ++ s.plain.varTypes C.prog) (ds ++ gs)).all (· ≤ reachBytes) = true → X W args →
      a.holds C.prog (lone (Frame.enter C.prog f args .normal) [] W) →
      Calls C.prog f args W fun e W' => ∃ v, e = .returned v ∧ s.post enc C.prog fn apart fresh handsOn again W args v W') :
    ReturnsInHanded a C os f .any (fun w args => (s.pre enc C.prog fn conds apart w args ∧ X w args) ∧ sizedMet enc C.prog fn (OpenSpec.ofChange s) apart w args) (s.post enc C.prog fn apart fresh handsOn again) := by
  refine returnsInHanded_of_calls own started noInit witness ?_
  intro w tape i _ hsh _ hok hpre hholds
  obtain ⟨_, _, _, fn', hfn', _, _, _, _, hval⟩ := hok
  have e : fn' = fn := Option.some.inj (hfn'.symm.trans hfn)
  subst e
  obtain ⟨⟨⟨ds, gs, before, hw, hc⟩, hx⟩, hz⟩ := hpre
  have hw' := DataW.Whole.of_heap (w' := w.forCall tape i) (by rfl) hw
  refine (contract (w.forCall tape i) w.heap.size i.args ds gs before hsh hval hw' hc (hz.weights hw) (hX _ _ _ (by rfl) hx) hholds).mono fun e W' ⟨v, he, hp⟩ => ?_
  subst he
  exact ChangeSpec.post_blind hp
abbrev laidT : List (String × DataW Unit) := [("math/bits.deBruijn64tab", Rows.laid_math_bits_deBruijn64tab)]
theorem tabG : Tryz.prog.globalNamed "math/bits.deBruijn64tab" = some 0 := by kernel_rfl
theorem tabTy : (Tryz.prog.globals[0]?).map (·.type) = some 386 := by kernel_rfl
theorem tabRw : (((begin Tryz.prog (fun _ _ => 0) default).world.heap[0]?).bind Obj.row?).map (fun x => (x.1.size, x.2)) = some (64, 386) := by kernel_rfl
theorem tabLt : 0 < Tryz.prog.globals.size := of_decide_eq_true (by kernel_rfl)
theorem tabD : (Rows.laid_math_bits_deBruijn64tab : DataW Unit) = .agg (Lib.deBruijn64tab.map fun k : Nat => .lit (.int .u8 (k : Int))) := rfl
/-- The table's block, in each world that starts as the text lays it. -/
theorem tab_of {W : World} (hs : W.ShapedOpen Tryz.prog) (hl : laidMetH Tryz.prog laidT W) : W.heap[0]? = some (.cells tabR.toArray 386 (0, 0)) := by
  cases hh : ((begin Tryz.prog (fun _ _ => 0) default).world.heap[0]?).bind Obj.row? with
  | none => have := tabRw; rw [hh] at this; cases this
  | some zt =>
    obtain ⟨zero, t⟩ := zt
    have hr := tabRw
    rw [hh] at hr
    simp only [Option.map_some, Option.some.injEq, Prod.mk.injEq] at hr
    obtain ⟨hz, rfl⟩ := hr
    obtain ⟨cs, hcs, hsz, _⟩ := hs.1 _ zero _ tabLt hh
    rw [MakeChecks.laidMetH_plain _ _ _ (by kernel_rfl)] at hl
    obtain ⟨ps, ⟨g0, t0, cs0, f0, p0, q0, hg0, ht0, hv0, hd0, _, _⟩, _, _⟩ := hl
    obtain rfl := Option.some.inj (tabG.symm.trans hg0)
    obtain rfl := Option.some.inj (tabTy.symm.trans ht0)
    have e0 : cs0 = cs := by
      simp only [World.var?, tabG, Option.bind_some, hcs, Option.some.injEq] at hv0
      exact hv0.symm
    subst e0
    rw [hcs]
    obtain ⟨xs, m, rfl, hx, hlen, hn, hel⟩ := DataW.trod_array Tryz.underlying386 hd0
    have hxs : xs.map (·.1) = Lib.deBruijn64tab.map fun k : Nat => DataW.lit (.int .u8 (k : Int)) := by
      have := (Prod.mk.inj hx).1
      rw [tabD] at this
      exact (DataW.agg.inj this).symm
    have c5 : Tryz.prog.cellsOf 5 = 1 := by kernel_rfl
    have c386 : Tryz.prog.cellsOf 386 = 64 := by kernel_rfl
    have hrow : cs0.toList = tabR := by
      apply List.ext_getElem?
      intro i
      by_cases hi : i < 64
      · have h1 := hel i hi
        rw [c5, Nat.mul_one] at h1
        obtain ⟨x, hxi⟩ : ∃ x, xs[i]? = some x := ⟨_, List.getElem?_eq_getElem (by omega)⟩
        rw [hxi] at h1
        obtain ⟨k, e1, e2, _⟩ := DataW.trod_int Tryz.underlying5 h1
        have h2 : (cs0.toList.drop i).take 1 = [.int .u8 k] := e1
        have h3 : cs0.toList[i]? = some (.int .u8 k) := by
          have := congrArg (·[0]?) h2
          simpa [List.getElem?_take, List.getElem?_drop] using this
        have h4 := congrArg (·[i]?) hxs
        simp only [List.getElem?_map, hxi, e2, Option.map_some] at h4
        rw [h3]
        simp only [tabR, List.getElem?_map]
        cases hg : Lib.deBruijn64tab[i]? with
        | none => rw [hg] at h4; cases h4
        | some q =>
          rw [hg] at h4
          simp only [Option.map_some, Option.some.injEq, DataW.lit.injEq, Lit.int.injEq, true_and] at h4
          simp [h4]
      · rw [List.getElem?_eq_none (by rw [hlen, c386]; omega), List.getElem?_eq_none (by rw [show tabR.length = 64 from rfl]; omega)]
    rw [← hrow]
/-- The context of a start: the whole heap, but for the table. -/
def cxW (W : World) : Cx := ⟨fun k => if k = 0 then none else W.heap[k]?, W.os, W.tape, W.output⟩
theorem sat_start {W : World} (ht : W.heap[0]? = some (.cells tabR.toArray 386 (0, 0))) : Sat [tabA] (cxW W) W := by
  refine ⟨_, rfl, fun k => ?_, fun k o hk => ?_, rfl, rfl, rfl⟩
  · by_cases hk : k = 0
    · exact .inr (by simp [cxW, hk])
    · exact .inl (by simp [hk])
  · simp only [Cx.with, Hp.un, cxW] at hk
    by_cases h0 : k = 0
    · subst h0
      simp at hk
      rw [ht, ← hk]
    · simp [h0] at hk
      exact hk
theorem sat_end {W W' : World} (ht : W.heap[0]? = some (.cells tabR.toArray 386 (0, 0))) (h : Sat [tabA] (cxW W) W') : Below W.heap.size W W' := by
  have hb : ∀ k, k < W.heap.size → W'.heap[k]? = W.heap[k]? := fun k hk => by
    by_cases h0 : k = 0
    · subst h0; rw [ht]; exact h.block
    · obtain ⟨hs, _⟩ := h.nil_of
      obtain ⟨o, ho⟩ : ∃ o, W.heap[k]? = some o := ⟨_, Array.getElem?_eq_getElem hk⟩
      rw [ho]
      exact hs k o (by simp [cxW, h0, ho])
  obtain ⟨_, h1, h2, h3⟩ := h.nil_of
  refine ⟨h1, h2, h3, ?_, hb⟩
  refine Classical.byContradiction fun hn => ?_
  have := hb W'.heap.size (by omega)
  rw [Array.getElem?_eq_none (Nat.le_refl _), Array.getElem?_eq_getElem (by omega)] at this
  cases this
end Go.Proofs.YtfkadaodnaaceaaGreatDoor
/- TopLine: the acts, and the card. -/
namespace Go.Proofs.YtfkadaodnaaceaaGreatDoor
open Go Go.SL Go.ChangeShapes Go.WideShapes Go.RowKit Go.Deep
set_option maxRecDepth 100000
section
variable {H : Type} {enc : TypeId × Value → H} {P : Program} {w : World} {base : Nat} {spare : Nat → Bool} {held : Bool} {t fuel : Nat} {c : Value} {x : DataW H × List MemPlace}
theorem rd_u8 (hu : P.underlying t = some (.int .u8)) (h : DataW.trod enc P w base spare held fuel t [c] = some x) : ∃ m : Nat, c = .int .u8 (m : Int) ∧ m < 256 := by
  obtain ⟨k, e1, _, hw⟩ := DataW.trod_int hu h
  simp [Lit.wf, IntKind.min, IntKind.max, IntKind.signed, IntKind.bits] at hw e1
  exact ⟨k.toNat, by rw [e1, Int.toNat_of_nonneg hw.1], by omega⟩
theorem rd_u16 (hu : P.underlying t = some (.int .u16)) (h : DataW.trod enc P w base spare held fuel t [c] = some x) : ∃ m : Nat, c = .int .u16 (m : Int) ∧ m < 65536 := by
  obtain ⟨k, e1, _, hw⟩ := DataW.trod_int hu h
  simp [Lit.wf, IntKind.min, IntKind.max, IntKind.signed, IntKind.bits] at hw e1
  exact ⟨k.toNat, by rw [e1, Int.toNat_of_nonneg hw.1], by omega⟩
theorem rd_u32 (hu : P.underlying t = some (.int .u32)) (h : DataW.trod enc P w base spare held fuel t [c] = some x) : ∃ m : Nat, c = .int .u32 (m : Int) ∧ m < 4294967296 := by
  obtain ⟨k, e1, _, hw⟩ := DataW.trod_int hu h
  simp [Lit.wf, IntKind.min, IntKind.max, IntKind.signed, IntKind.bits] at hw e1
  exact ⟨k.toNat, by rw [e1, Int.toNat_of_nonneg hw.1], by omega⟩
theorem rd_u64 (hu : P.underlying t = some (.int .u64)) (h : DataW.trod enc P w base spare held fuel t [c] = some x) : ∃ m : Nat, c = .int .u64 (m : Int) ∧ m < 18446744073709551616 := by
  obtain ⟨k, e1, _, hw⟩ := DataW.trod_int hu h
  simp [Lit.wf, IntKind.min, IntKind.max, IntKind.signed, IntKind.bits] at hw e1
  exact ⟨k.toNat, by rw [e1, Int.toNat_of_nonneg hw.1], by omega⟩
theorem rd_str (hu : P.underlying t = some .string) (h : DataW.trod enc P w base spare held fuel t [c] = some x) : ∃ l : List UInt8, c = sv l ∧ l.length ≤ 9223372036854775807 := by
  obtain ⟨s, e1, _, hs⟩ := DataW.trod_string hu h
  simp at e1
  subst e1
  obtain ⟨d⟩ := s
  exact ⟨d.toList, by simp [sv], by simpa [ByteArray.size, maxLen] using hs⟩
theorem act_of {cs : List Value} (h : DataW.trod enc Tryz.prog w base spare held fuel 46 cs = some x) : ∃ a : Actn, a.ok ∧ cs = Actn.cs a := by
  have c5 : Tryz.prog.cellsOf 5 = 1 := by kernel_rfl
  have c9 : Tryz.prog.cellsOf 9 = 1 := by kernel_rfl
  have c22 : Tryz.prog.cellsOf 22 = 1 := by kernel_rfl
  have c41 : Tryz.prog.cellsOf 41 = 1 := by kernel_rfl
  have c42 : Tryz.prog.cellsOf 42 = 1 := by kernel_rfl
  have c44 : Tryz.prog.cellsOf 44 = 7 := by kernel_rfl
  have c46 : Tryz.prog.cellsOf 46 = 10 := by kernel_rfl
  obtain ⟨xs, n, _, _, hlen, hxl, hf⟩ := DataW.trod_struct Tryz.underlying46 h
  rw [c46] at hlen
  match cs, hlen, xs, hxl with
  | [c0, c1, c2, c3, c4, c5', c6, c7, c8, c9'], _, [x0, x1, x2, x3], _ =>
    have h0 : DataW.trod enc Tryz.prog w base spare held n 5 (([c0, c1, c2, c3, c4, c5', c6, c7, c8, c9'].drop 0).take (Tryz.prog.cellsOf 5)) = some x0 := hf 0 _ rfl
    have h1 : DataW.trod enc Tryz.prog w base spare held n 44 (([c0, c1, c2, c3, c4, c5', c6, c7, c8, c9'].drop 1).take (Tryz.prog.cellsOf 44)) = some x1 := hf 1 _ rfl
    have h2 : DataW.trod enc Tryz.prog w base spare held n 9 (([c0, c1, c2, c3, c4, c5', c6, c7, c8, c9'].drop 8).take (Tryz.prog.cellsOf 9)) = some x2 := hf 2 _ rfl
    have h3 : DataW.trod enc Tryz.prog w base spare held n 22 (([c0, c1, c2, c3, c4, c5', c6, c7, c8, c9'].drop 9).take (Tryz.prog.cellsOf 22)) = some x3 := hf 3 _ rfl
    rw [c5] at h0; rw [c44] at h1; rw [c9] at h2; rw [c22] at h3
    obtain ⟨k, rfl, hk⟩ := rd_u8 Tryz.underlying5 (c := c0) h0
    obtain ⟨b, rfl, hb⟩ := rd_str Tryz.underlying9 (c := c8) h2
    obtain ⟨tt, rfl, ht⟩ := rd_u64 Tryz.underlying22 (c := c9') h3
    obtain ⟨ys, n', _, _, _, hyl, hg⟩ := DataW.trod_struct Tryz.underlying44 h1
    match ys, hyl with
    | [y0, y1, y2, y3, y4, y5, y6], _ =>
      have g0 : DataW.trod enc Tryz.prog w base spare held n' 5 (([c1, c2, c3, c4, c5', c6, c7].drop 0).take (Tryz.prog.cellsOf 5)) = some y0 := hg 0 _ rfl
      have g1 : DataW.trod enc Tryz.prog w base spare held n' 41 (([c1, c2, c3, c4, c5', c6, c7].drop 1).take (Tryz.prog.cellsOf 41)) = some y1 := hg 1 _ rfl
      have g2 : DataW.trod enc Tryz.prog w base spare held n' 5 (([c1, c2, c3, c4, c5', c6, c7].drop 2).take (Tryz.prog.cellsOf 5)) = some y2 := hg 2 _ rfl
      have g3 : DataW.trod enc Tryz.prog w base spare held n' 42 (([c1, c2, c3, c4, c5', c6, c7].drop 3).take (Tryz.prog.cellsOf 42)) = some y3 := hg 3 _ rfl
      have g4 : DataW.trod enc Tryz.prog w base spare held n' 42 (([c1, c2, c3, c4, c5', c6, c7].drop 4).take (Tryz.prog.cellsOf 42)) = some y4 := hg 4 _ rfl
      have g5 : DataW.trod enc Tryz.prog w base spare held n' 41 (([c1, c2, c3, c4, c5', c6, c7].drop 5).take (Tryz.prog.cellsOf 41)) = some y5 := hg 5 _ rfl
      have g6 : DataW.trod enc Tryz.prog w base spare held n' 41 (([c1, c2, c3, c4, c5', c6, c7].drop 6).take (Tryz.prog.cellsOf 41)) = some y6 := hg 6 _ rfl
      rw [c5] at g0
      rw [c41] at g1
      rw [c5] at g2
      rw [c42] at g3
      rw [c42] at g4
      rw [c41] at g5
      rw [c41] at g6
      obtain ⟨d, rfl, hd⟩ := rd_u8 Tryz.underlying5 (c := c1) g0
      obtain ⟨i, rfl, hi⟩ := rd_u16 Tryz.underlying41 (c := c2) g1
      obtain ⟨tl, rfl, htl⟩ := rd_u8 Tryz.underlying5 (c := c3) g2
      obtain ⟨s, rfl, hs⟩ := rd_u32 Tryz.underlying42 (c := c4) g3
      obtain ⟨e, rfl, he⟩ := rd_u32 Tryz.underlying42 (c := c5') g4
      obtain ⟨sp, rfl, hsp⟩ := rd_u16 Tryz.underlying41 (c := c6) g5
      obtain ⟨dp, rfl, hdp⟩ := rd_u16 Tryz.underlying41 (c := c7) g6
      exact ⟨⟨k, ⟨d, i, tl, s, e, sp, dp⟩, b, tt⟩, ⟨hk, ⟨hd, hi, htl, hs, he, hsp, hdp⟩, hb, ht⟩, rfl⟩
end
/-- The acts of an argument. -/
theorem acts_of {H : Type} {enc : TypeId × Value → H} {W : World} {fuel : Nat} {A : Option Addr} {len cap : Nat} {x : DataW H × List MemPlace} (ht : W.heap[0]? = some (.cells tabR.toArray 386 (0, 0)))
    (h : DataW.trod enc Tryz.prog W 0 (fun _ => true) true fuel 29 [.slice A len cap] = some x) : ∃ l : List Actn, l.length = len ∧ l.length ≤ 9223372036854775807 ∧ ActsIn (cxW W) A l := by
  have c46 : Tryz.prog.cellsOf 46 = 10 := by kernel_rfl
  rcases open_slice Tryz.underlying29 h with ⟨hc, _⟩ | ⟨a, len', cap', m, n, D, Pl, hc, _, hl, hm, hmm, _, hel⟩
  · simp at hc
    obtain ⟨rfl, rfl, rfl⟩ := hc
    exact ⟨[], rfl, by simp, fun i a hi => by simp at hi⟩
  · simp at hc
    obtain ⟨rfl, rfl, rfl⟩ := hc
    have hlm : len ≤ m := by rw [hmm]; simp; exact hl
    have each : ∀ i, ∃ q : Actn, i < len → q.ok ∧ ∀ j v, (Actn.cs q)[j]? = some v → W.cell? ((a.add (i * 10)).add j) = some v := fun i => by
      by_cases hi : i < len
      · obtain ⟨cs, h1, h2⟩ := hel i (by omega)
        rw [c46] at h1
        obtain ⟨q, hq, rfl⟩ := act_of h2
        obtain ⟨_, _, hat⟩ := World.cells?_some h1
        refine ⟨q, fun _ => ⟨hq, fun j v hj => ?_⟩⟩
        have hj10 : j < 10 := (List.getElem?_eq_some_iff.1 hj).1
        rw [hat j hj10, hj]
      · exact ⟨⟨0, ⟨0, 0, 0, 0, 0, 0, 0⟩, [], 0⟩, fun h => absurd h hi⟩
    refine ⟨(List.range len).map fun i => Classical.choose (each i), by simp, by simp [maxLen] at hm ⊢; omega, fun i q hi => ?_⟩
    have hil : i < len := by
      have := (List.getElem?_eq_some_iff.1 hi).1
      simpa using this
    have hq : q = Classical.choose (each i) := by
      rw [List.getElem?_map, List.getElem?_range hil] at hi
      exact (Option.some.inj hi).symm
    obtain ⟨hok, hcell⟩ := Classical.choose_spec (each i) hil
    rw [← hq] at hok hcell
    refine ⟨hok, a, rfl, fun w hw j v hj => ?_⟩
    have hbl : ∀ k, (a.add k).block = a.block := fun k => by unfold Addr.add; split <;> rfl
    have hbl2 : ∀ k j, ((a.add k).add j).block = a.block := fun k j => by
      rw [← hbl k]; generalize a.add k = z; unfold Addr.add; split <;> rfl
    have hne : a.block ≠ 0 := fun he => by
      have h8 := hcell 8 (sv q.body) rfl
      unfold World.cell? at h8
      rw [hbl2, he, ht] at h8
      simp only at h8
      split at h8
      · cases h8
      · rw [List.getElem?_toArray, tabR, List.getElem?_map] at h8
        cases hg : Lib.deBruijn64tab[((a.add (i * 10)).add 8).off]? with
        | none => rw [hg] at h8; cases h8
        | some k => rw [hg] at h8; simp [sv] at h8
    have hv := hcell j v hj
    unfold World.cell? at hv ⊢
    rw [hbl2] at hv ⊢
    cases ho : W.heap[a.block]? with
    | none => rw [ho] at hv; cases hv
    | some o =>
      obtain ⟨hs, _⟩ := hw
      rw [ho] at hv
      rw [hs a.block o (by simp [cxW, hne, ho])]
      exact hv
theorem kept_below {W W' : World} (h : Below W.heap.size W W') : W.keptBut W' (fun _ => False) := ⟨h.os, h.output, fun i hi => by
  rw [h.block i hi]
  cases W.heap[i]? with
  | none => rfl
  | some o => cases o <;> simp⟩
theorem post_below {H : Type} {enc : TypeId × Value → H} {P : Program} {f : Func} {s : ChangeSpec} {W W' : World} {args : Array Value} {v : Value} {ds gs : List (DataW H)} {before pa : List MemPlace}
    (hW : DataW.Whole enc P f.params.toList s.vars false W args.toList ds gs before)
    (hres : DataW.TrodAll enc P W' W.heap.size (fun _ => false) false f.resultTypes.toList (v.resultList f.resultTypes.size) (s.fn H (ds ++ gs)).results [])
    (hargs : DataW.TrodAll enc P W' 0 (fun b => decide (b < W.heap.size)) true f.params.toList args.toList (s.fn H (ds ++ gs)).args pa)
    (hvars : DataW.TrodVars enc P W' (fun b => decide (b < W.heap.size)) s.vars (s.fn H (ds ++ gs)).vars []) (hb : Below W.heap.size W W') :
    s.post enc P f false true false false W args v W' :=
  ⟨ds, gs, before, [], pa, [], hW, hres, hargs, hvars, World.keptBut_mono (fun _ h => h.elim) (kept_below hb), fun h => by cases h⟩
end Go.Proofs.YtfkadaodnaaceaaGreatDoor
/- TopLine's card. -/
namespace Go.Proofs.YtfkadaodnaaceaaGreatDoor
open Go Go.SL Go.ChangeShapes Go.WideShapes Go.RowKit Go.Deep
set_option maxRecDepth 100000
theorem ownT : ownKnob Tryz.prog.godebug = none := by kernel_rfl
theorem laidOutT : laidOutB Tryz.prog = true := by kernel_rfl
theorem door_met (os : Os) (args : Array Value) : laidMetH Tryz.prog laidT ((World.doorLaid Tryz.prog 14 os).forCall (fun _ _ => 0) ⟨#[], args, []⟩).memory :=
  laidMetH_of_parts3 (fuel := 8) (laidMet_of_run' 8 (by kernel_rfl) (by kernel_rfl)) (by kernel_rfl) (by kernel_rfl)
theorem top_lifted (os : Os) (started : os.Started) (H : Type) (enc : TypeId × Value → H) :
    ReturnsInHanded {} Tryz.checked os 7 .any (fun w args => (Rows.topLineSpec.pre enc Tryz.prog Tryz.f7 [] false w args ∧ laidMetH Tryz.prog laidT w) ∧ sizedMet enc Tryz.prog Tryz.f7 (OpenSpec.ofChange Rows.topLineSpec) false w args)
      (Rows.topLineSpec.post enc Tryz.prog Tryz.f7 false true false false) := by
  refine returns_shaped (C := Tryz.checked) (X := fun w _ => laidMetH Tryz.prog laidT w) (fun _ _ _ hh h => h.of_heap hh) ownT started (by kernel_rfl) Tryz.func7
    (ChangeSpec.witness_shaped (enc := enc) (C := Tryz.checked) (os := os) (X := fun w _ => laidMetH Tryz.prog laidT w) false (World.doorLaid Tryz.prog 14 os) #[.slice none 0 0, .bool false, .bool false] 8 rfl (World.shaped_of_RefB (by kernel_rfl) (by kernel_rfl)) (by kernel_rfl) (by kernel_rfl) (by kernel_rfl) (door_met os _)) ?_
  intro W base args ds gs before hsh hval0 hW _ _ hL _
  have hval : ∀ (j : Nat) t v, Tryz.f7.params[j]? = some t → args[j]? = some v → Value.okWide Tryz.prog W .any base t v := hval0
  have hW' := hW
  obtain ⟨p, q, hA0, hV, rfl, hfz, hnd⟩ := hW
  have hA : DataW.TrodAll enc Tryz.prog W 0 (fun _ => true) true Tryz.f7.params.toList args.toList ds p := hA0
  rw [Tryz.params7] at hA hval
  obtain ⟨v0, v1, v2, d0, d1, d2, p0, p1, p2, rfl, rfl, rfl, h0, h1, h2⟩ := trodAll_three hA
  obtain ⟨rfl, rfl⟩ := trodVars_none hV
  obtain ⟨A, len, cap, rfl⟩ := okWide_slice Tryz.underlying29 (hval 0 29 v0 rfl rfl)
  obtain ⟨b1, rfl, rfl, rfl⟩ := open_bool Tryz.underlying4 (hval 1 4 v1 rfl rfl) h1
  obtain ⟨b2, rfl, rfl, rfl⟩ := open_bool Tryz.underlying4 (hval 2 4 v2 rfl rfl) h2
  have ht := tab_of hsh hL
  obtain ⟨fuel, hf⟩ := id h0
  obtain ⟨l, rfl, hn, hin⟩ := acts_of ht (show DataW.trod enc Tryz.prog W 0 (fun _ => true) true fuel 29 [.slice A len cap] = some (d0, p0) from hf)
  have hlt : ∀ x ∈ p0, x.block < W.heap.size := fun x hx => hW'.lt x (by simp [hx])
  refine (top_ct (cxW W) A cap l b1 b2 hin hn W (sat_start ht)).mono fun e W' ⟨v, L, he, ⟨hv, hL'⟩, hs⟩ => ?_
  subst hv; subst hL'
  have hb := sat_end ht hs
  refine ⟨_, he, post_below (pa := p0 ++ ([] ++ [])) hW' (trodAll_mk1 (shut_bool Tryz.underlying4 _)) (trodAll_mk3 (Below.trod laidOutT (by kernel_rfl) (of_decide_eq_true (by kernel_rfl)) h0 hb hlt) (shut_bool Tryz.underlying4 _) (shut_bool Tryz.underlying4 _)) rfl hb⟩
end Go.Proofs.YtfkadaodnaaceaaGreatDoor
