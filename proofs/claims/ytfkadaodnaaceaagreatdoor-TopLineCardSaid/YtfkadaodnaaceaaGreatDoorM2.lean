/- TopLine answers true at every input, and its arguments read as they did: part 2; conditions: the row's own. -/
import Derived.Test.YtfkadaodnaaceaaGreatDoorM1
set_option linter.all false
set_option linter.unusedVariables false
set_option linter.unusedSimpArgs false
/- The heap as a list of items in order: what each of its functions does to it. -/
namespace Go.Proofs.YtfkadaodnaaceaaGreatDoor
open Go Go.SL
theorem Heap2.ag_62 : aggK Tryz.prog 62 = some 3 := by kernel_rfl
theorem Heap2.ag_459 : aggK Tryz.prog 459 = some 5 := by kernel_rfl
theorem Heap2.ca_269 : callable Tryz.prog 269 = true := by kernel_rfl
theorem Heap2.ca_274 : callable Tryz.prog 274 = true := by kernel_rfl
theorem Heap2.ca_277 : callable Tryz.prog 277 = true := by kernel_rfl
theorem Heap2.ca_278 : callable Tryz.prog 278 = true := by kernel_rfl
theorem Heap2.fo_353_0 : fieldOff Tryz.prog 353 0 = some 0 := by kernel_rfl
theorem Heap2.fo_353_1 : fieldOff Tryz.prog 353 1 = some 1 := by kernel_rfl
theorem Heap2.fo_353_2 : fieldOff Tryz.prog 353 2 = some 2 := by kernel_rfl
theorem Heap2.fo_459_0 : fieldOff Tryz.prog 459 0 = some 0 := by kernel_rfl
theorem Heap2.fo_459_2 : fieldOff Tryz.prog 459 2 = some 2 := by kernel_rfl
theorem Heap2.pl_353 : placesK Tryz.prog 353 = some [(0, 1), (1, 1), (2, 1)] := by kernel_rfl
theorem Heap2.pl_459 : placesK Tryz.prog 459 = some [(0, 1), (1, 1), (2, 3)] := by kernel_rfl
theorem Heap2.sc_3 : scalarT Tryz.prog 3 = true := by kernel_rfl
theorem Heap2.sc_22 : scalarT Tryz.prog 22 = true := by kernel_rfl
theorem Heap2.sc_351 : scalarT Tryz.prog 351 = true := by kernel_rfl
theorem Heap2.sl_351 : sliceK Tryz.prog 351 = some (459, 5, 32) := by kernel_rfl
theorem Heap2.sz_22 : sizeK Tryz.prog 22 = some 1 := by kernel_rfl
theorem Heap2.sz_62 : sizeK Tryz.prog 62 = some 3 := by kernel_rfl
theorem Heap2.sz_351 : sizeK Tryz.prog 351 = some 1 := by kernel_rfl
theorem Heap2.sz_459 : sizeK Tryz.prog 459 = some 5 := by kernel_rfl
theorem Heap2.un_284 : Tryz.prog.underlying 284 = some (.pointer 353) := by kernel_rfl
theorem Heap2.un_351 : Tryz.prog.underlying 351 = some (.slice 459) := by kernel_rfl
theorem Heap2.ze_62 : zeroC Tryz.prog 62 = some [.int .u32 0, .int .u32 0, .int .u64 0] := by kernel_rfl
theorem Heap2.ze_353 : zeroC Tryz.prog 353 = some [.slice none 0 0, .int .u64 0, .int .i64 0] := by kernel_rfl
theorem Heap2.ze_459 : zeroC Tryz.prog 459 = some [.int .u64 0, .int .u64 0, .int .u32 0, .int .u32 0, .int .u64 0] := by kernel_rfl
set_option maxRecDepth 100000
set_option maxHeartbeats 1000000
structure It where
 rank : Nat
 pk : Pk
 deriving DecidableEq, Inhabited
def En.it (e : En) : It := ⟨e.rank, e.pk⟩
/-- Behind all of no greater rank. -/
def insI (x : It) : List It → List It
 | [] => [x]
 | y :: ys => if x.rank < y.rank then x :: y :: ys else y :: insI x ys
theorem ins_it {e : En} {L : List En} (h : ∀ x ∈ L, x.came < e.came) : (ins e L).map En.it = insI e.it (L.map En.it) := by
 induction L with
 | nil => rfl
 | cons x xs ih =>
  have hx := h x (by simp)
  simp only [ins, List.map_cons, insI, En.it]
  by_cases hr : e.rank < x.rank
  ·have : e.lt x := .inl hr
   simp [hr, this, En.it]
  ·have : ¬ e.lt x := by unfold En.lt; omega
   simp only [this, hr, if_false, List.map_cons]
   rw [ih fun y hy => h y (by simp [hy])]
   rfl
theorem insI_length (x : It) (l : List It) : (insI x l).length = l.length + 1 := by
 induction l with
 | nil => rfl
 | cons y ys ih => simp only [insI]; split <;> simp [ih]

structure HP (I : List It) (k : Nat) (L es : List En) (came : Nat) : Prop where
 it : I = L.map En.it
 perm : es.Perm L
 ok : HeapOK es
 srt : Srt L
 fresh : ∀ x ∈ L, x.came < came
 le : came ≤ k
theorem HP.length {I : List It} {k : Nat} {L es : List En} {came : Nat} (h : HP I k L es came) : es.length = I.length := by rw [h.it, h.perm.length_eq]; simp
/-- A heap at block p: items I in order, room; at most k came. -/
def heapI (p : Nat) (I : List It) (room k : Nat) : As := fun h => ∃ x : List En × List En × Option Addr × Nat × Nat, HP I k x.1 x.2.1 x.2.2.2.2 ∧
 sepL [pt p 353 (hcs x.2.2.1 I.length x.2.2.2.1 (.int .u64 x.2.2.2.2) (.int .i64 room)), ownS 459 5 x.2.2.1 I.length x.2.2.2.1 (flat En.cs x.2.1)] h
theorem heapI_open {p room k : Nat} {I : List It} {M : List As} {c : Cx} (w : World) (h : Sat (heapI p I room k :: M) c w) : ∃ x : List En × List En × Option Addr × Nat × Nat, HP I k x.1 x.2.1 x.2.2.2.2 ∧
 Sat (pt p 353 (hcs x.2.2.1 I.length x.2.2.2.1 (.int .u64 x.2.2.2.2) (.int .i64 room)) :: ownS 459 5 x.2.2.1 I.length x.2.2.2.1 (flat En.cs x.2.1) :: M) c w := by
 obtain ⟨h1, ⟨x, hx, hs⟩, d, k⟩ := h
 exact ⟨x, hx, Sat.sepL_iff.1 ⟨h1, hs, d, k⟩⟩
theorem heapI_shut {p room k cap came : Nat} {I : List It} {L es : List En} {A : Option Addr} {M : List As} {c : Cx} {w : World} (hp : HP I k L es came)
 (h : Sat (pt p 353 (hcs A I.length cap (.int .u64 came) (.int .i64 room)) :: ownS 459 5 A I.length cap (flat En.cs es) :: M) c w) : Sat (heapI p I room k :: M) c w := by
 obtain ⟨h1, hs, d, k⟩ := Sat.sepL_iff.2 (show Sat ([_, _] ++ M) c w from h)
 exact ⟨h1, ⟨(L, es, A, cap, came), hp, hs⟩, d, k⟩

theorem HP_nil (k : Nat) : HP [] k [] [] 0 := ⟨rfl, .refl _, fun k h0 hk => absurd hk (by simp), List.Pairwise.nil, fun x hx => (by cases hx), Nat.zero_le _⟩

theorem hLen_ct (c : Cx) (p room k : Nat) (I : List It) : Ct Tryz.prog 269 #[.pointer (some ⟨p, 0, none⟩)] c [heapI p I room k] fun v L => v = .int .i64 I.length ∧ L = [heapI p I room k] := by
 refine ct_fn (args := [.pointer (some ⟨p, 0, none⟩)]) [(0, .pointer (some ⟨p, 0, none⟩))] Tryz.func269 rfl Tryz.ntmps269 rfl ⟨rfl, trivial⟩ ?_
 refine cd_open heapI_open ?_
 rintro ⟨L, es, A, cap, came⟩ hp
 simp only [] at hp ⊢
 refine cd_seq ?_
 refine cd_region [0] ?_
 refine op_y (y_assign rfl) rfl ?_
 refine op_nil ?_
 refine ent_then ?_
 refine cd_seq ?_
 refine cd_seq ?_
 refine cd_region [0, 0] ?_
 refine op_y (y_move rfl) rfl ?_
 first | refine op_y (y_peq (r := false) Heap2.un_284 rfl rfl) rfl ?_ | refine op_y (y_peq (r := true) Heap2.un_284 rfl rfl) rfl ?_ | refine op_y (y_peq Heap2.un_284 rfl rfl) rfl ?_
 refine op_nil ?_
 refine ent_then ?_
 refine cd_iff rfl ?_
 refine cd_skip ?_
 refine ent_then ?_
 refine cd_seq ?_
 refine cd_region [0, 0, 0, 1, 0, 0] ?_
 refine op_y (y_move rfl) rfl ?_
 first | refine op_y (y_nil rfl) rfl ?_ | refine op_y (y_nili rfl) rfl ?_ | refine op_y (y_nilf rfl) rfl ?_
 first | refine op_y (y_fld0 Heap2.fo_353_0 rfl) rfl ?_ | refine op_y (y_flda Heap2.fo_353_0 rfl) rfl ?_
 apply op_ld Heap2.sc_351 rfl rfl
 ·exact rm
 ·rfl
 refine op_y (y_len Heap2.un_351 rfl) rfl ?_
 refine op_y (y_assign rfl) rfl ?_
 refine op_nil ?_
 refine ent_then ?_
 refine cd_ret ?_
 refine ent_ret1 rfl rfl ⟨_, ⟨rfl, rfl⟩, fun w h => heapI_shut hp h⟩

theorem hNil_ct (c : Cx) : Ct Tryz.prog 269 #[.pointer none] c [] fun v L => v = .int .i64 0 ∧ L = [] := by
 refine ct_fn (args := [.pointer none]) [(0, .pointer none)] Tryz.func269 rfl Tryz.ntmps269 rfl ⟨rfl, trivial⟩ ?_
 refine cd_seq ?_
 refine cd_region [0] ?_
 refine op_y (y_assign rfl) rfl ?_
 refine op_nil ?_
 refine ent_then ?_
 refine cd_seq ?_
 refine cd_seq ?_
 refine cd_region [0, 0] ?_
 refine op_y (y_move rfl) rfl ?_
 first | refine op_y (y_peq (r := false) Heap2.un_284 rfl rfl) rfl ?_ | refine op_y (y_peq (r := true) Heap2.un_284 rfl rfl) rfl ?_ | refine op_y (y_peq Heap2.un_284 rfl rfl) rfl ?_
 refine op_nil ?_
 refine ent_then ?_
 refine cd_ift rfl ?_
 refine cd_seq ?_
 refine cd_region [0] ?_
 refine op_y (y_assign rfl) rfl ?_
 refine op_nil ?_
 refine ent_then ?_
 refine cd_ret ?_
 refine ent_thn_ret ?_
 refine ent_ret1 rfl rfl ⟨_, ⟨rfl, rfl⟩, fun w h => h⟩

theorem hNew_ct (c : Cx) (room : Nat) (h1 : 1 ≤ room) (h2 : room ≤ 4096) : Ct Tryz.prog 147 #[.int .i64 room] c [] fun v L => ∃ p, v = .tuple #[.pointer (some ⟨p, 0, none⟩), .int .i64 0] ∧ L = [heapI p [] room 0] := by
 refine ct_fn (args := [.int .i64 room]) [(0, .int .i64 room)] Tryz.func147 rfl Tryz.ntmps147 rfl ⟨rfl, trivial⟩ ?_
 refine cd_seq ?_
 refine cd_region [0, 0] ?_
 refine op_y (y_assign rfl) rfl ?_
 refine op_y (y_assign rfl) rfl ?_
 refine op_nil ?_
 refine ent_then ?_
 refine cd_seq ?_
 refine cd_seq ?_
 refine cd_region [0, 0, 0, 0, 0, 0] ?_
 refine op_y (y_move rfl) rfl ?_
 first | refine op_y (y_lt rfl rfl (decide_eq_true (by omega))) rfl ?_ | refine op_y (y_lt rfl rfl (decide_eq_false (by omega))) rfl ?_ | refine op_y (y_lt rfl rfl rfl) rfl ?_
 refine op_y (y_move rfl) rfl ?_
 first
  | refine op_s1 rfl rfl ⟨rfl, rfl⟩ ?_
  | refine op_s2 rfl rfl ⟨rfl, rfl⟩ ?_
  | (refine op_g rfl rfl ?_
     refine op_y (y_move rfl) rfl ?_)
 first
  | refine op_s1 rfl rfl ⟨rfl, rfl⟩ ?_
  | refine op_s2 rfl rfl ⟨rfl, rfl⟩ ?_
  | (refine op_g rfl rfl ?_
     first | refine op_y (y_gt rfl rfl (decide_eq_true (by omega))) rfl ?_ | refine op_y (y_gt rfl rfl (decide_eq_false (by omega))) rfl ?_ | refine op_y (y_gt rfl rfl rfl) rfl ?_)
 first | refine op_y (y_pickt rfl rfl) rfl ?_ | refine op_y (y_pickf rfl rfl) rfl ?_ | refine op_y (y_pick rfl rfl rfl) rfl ?_
 refine op_nil ?_
 refine ent_then ?_
 refine cd_iff rfl ?_
 refine cd_skip ?_
 refine ent_then ?_
 refine cd_seq ?_
 refine cd_region [0, 0, 2, 0, 0] ?_
 refine op_y (y_move rfl) rfl ?_
 apply op_build Heap2.pl_353 Heap2.ze_353 rfl rfl
 ·(first | ((try simp [fillL, splice, Value.cells, Pk.cs, En.cs]) <;> rfl) | rfl)
 refine op_boxa rfl rfl fun b12 => ?_
 refine op_y (y_assign rfl) rfl ?_
 refine op_y (y_assign rfl) rfl ?_
 refine op_nil ?_
 refine ent_then ?_
 refine cd_ret ?_
 refine ent_ret2 rfl rfl rfl ⟨_, ⟨_, rfl, rfl⟩, fun w h => heapI_shut (L := []) (es := []) (A := none) (cap := 0) (came := 0) (HP_nil 0) ?_⟩
 exact Sat.swap (ownS_nil h)

theorem hPush_ct (c : Cx) (p room k : Nat) (I : List It) (x : It) (hI : I.length ≤ 90000) (hk : k < 18446744073709551615) : Ct Tryz.prog 276 #[.pointer (some ⟨p, 0, none⟩), .int .u64 x.rank, .agg (Pk.cs x.pk).toArray] c [heapI p I room k]
 fun v L => (room ≤ I.length ∧ v = .bool false ∧ L = [heapI p I room k]) ∨ (I.length < room ∧ v = .bool true ∧ L = [heapI p (insI x I) room (k + 1)]) := by
 refine ct_fn (args := [.pointer (some ⟨p, 0, none⟩), .int .u64 x.rank, .agg (Pk.cs x.pk).toArray]) [(0, .pointer (some ⟨p, 0, none⟩)), (1, .int .u64 x.rank), (2, .agg (Pk.cs x.pk).toArray)] Tryz.func276 rfl Tryz.ntmps276 rfl ⟨rfl, rfl, rfl, trivial⟩ ?_
 refine cd_open heapI_open ?_
 rintro ⟨L, es, A, cap, came⟩ hp
 simp only [] at hp ⊢
 have hle := hp.le
 by_cases hr : room ≤ I.length
 ·skip
  refine cd_seq ?_
  refine cd_region [2, 0] ?_
  refine op_boxa rfl rfl fun b5 => ?_
  refine op_y (y_assign rfl) rfl ?_
  refine op_nil ?_
  refine ent_then ?_
  refine cd_seq ?_
  refine cd_seq ?_
  refine cd_draw ([]) [0, 1, 2, 3, 4, 5, 6, 7, 8, 9, 10, 11, 12, 13] [0, 0, 0, 0, 0, 0, 1, 0, 0, 0, 0, 1, 0, 0] mixed_ (by kernel_rfl) ?_
  refine op_y (y_move rfl) rfl ?_
  first | refine op_y (y_peq (r := false) Heap2.un_284 rfl rfl) rfl ?_ | refine op_y (y_peq (r := true) Heap2.un_284 rfl rfl) rfl ?_ | refine op_y (y_peq Heap2.un_284 rfl rfl) rfl ?_
  refine op_y (y_move rfl) rfl ?_
  first
   | refine op_s1 rfl rfl ⟨rfl, rfl⟩ ?_
   | refine op_s2 rfl rfl ⟨rfl, rfl⟩ ?_
   | (refine op_g rfl rfl ?_
      refine op_y (y_move rfl) rfl ?_)
  first
   | refine op_s1 rfl rfl ⟨rfl, rfl⟩ ?_
   | refine op_s2 rfl rfl ⟨rfl, rfl⟩ ?_
   | (refine op_g rfl rfl ?_
      first | refine op_y (y_nil rfl) rfl ?_ | refine op_y (y_nili rfl) rfl ?_ | refine op_y (y_nilf rfl) rfl ?_)
  first
   | refine op_s1 rfl rfl ⟨rfl, rfl⟩ ?_
   | refine op_s2 rfl rfl ⟨rfl, rfl⟩ ?_
   | (refine op_g rfl rfl ?_
      first | refine op_y (y_fld0 Heap2.fo_353_0 rfl) rfl ?_ | refine op_y (y_flda Heap2.fo_353_0 rfl) rfl ?_)
  first
   | refine op_s1 rfl rfl ⟨rfl, rfl⟩ ?_
   | refine op_s2 rfl rfl ⟨rfl, rfl⟩ ?_
   | (refine op_g rfl rfl ?_
      apply op_ld Heap2.sc_351 rfl rfl
      ·exact rm
      ·rfl)
  first
   | refine op_s1 rfl rfl ⟨rfl, rfl⟩ ?_
   | refine op_s2 rfl rfl ⟨rfl, rfl⟩ ?_
   | (refine op_g rfl rfl ?_
      refine op_y (y_len Heap2.un_351 rfl) rfl ?_)
  first
   | refine op_s1 rfl rfl ⟨rfl, rfl⟩ ?_
   | refine op_s2 rfl rfl ⟨rfl, rfl⟩ ?_
   | (refine op_g rfl rfl ?_
      refine op_y (y_move rfl) rfl ?_)
  first
   | refine op_s1 rfl rfl ⟨rfl, rfl⟩ ?_
   | refine op_s2 rfl rfl ⟨rfl, rfl⟩ ?_
   | (refine op_g rfl rfl ?_
      first | refine op_y (y_nil rfl) rfl ?_ | refine op_y (y_nili rfl) rfl ?_ | refine op_y (y_nilf rfl) rfl ?_)
  first
   | refine op_s1 rfl rfl ⟨rfl, rfl⟩ ?_
   | refine op_s2 rfl rfl ⟨rfl, rfl⟩ ?_
   | (refine op_g rfl rfl ?_
      first | refine op_y (y_fld Heap2.fo_353_2 rfl) rfl ?_ | refine op_y (y_flda Heap2.fo_353_2 rfl) rfl ?_)
  first
   | refine op_s1 rfl rfl ⟨rfl, rfl⟩ ?_
   | refine op_s2 rfl rfl ⟨rfl, rfl⟩ ?_
   | (refine op_g rfl rfl ?_
      apply op_ld Heap2.sc_3 rfl rfl
      ·exact rm
      ·rfl)
  first
   | refine op_s1 rfl rfl ⟨rfl, rfl⟩ ?_
   | refine op_s2 rfl rfl ⟨rfl, rfl⟩ ?_
   | (refine op_g rfl rfl ?_
      first | refine op_y (y_ge rfl rfl (decide_eq_true (by omega))) rfl ?_ | refine op_y (y_ge rfl rfl (decide_eq_false (by omega))) rfl ?_ | refine op_y (y_ge rfl rfl rfl) rfl ?_)
  first | refine op_y (y_pickt rfl rfl) rfl ?_ | refine op_y (y_pickf rfl rfl) rfl ?_ | refine op_y (y_pick rfl rfl rfl) rfl ?_
  refine op_nil ?_
  refine ent_then ?_
  refine cd_ift rfl ?_
  refine cd_seq ?_
  refine cd_region [0] ?_
  refine op_y (y_assign rfl) rfl ?_
  refine op_nil ?_
  refine ent_then ?_
  refine cd_ret ?_
  refine ent_thn_ret ?_
  refine ent_ret1 rfl rfl ⟨_, .inl ⟨hr, rfl, rfl⟩, fun w h => heapI_shut hp h.drop⟩
 ·skip
  have hlen := hp.length
  refine cd_seq ?_
  refine cd_region [2, 0] ?_
  refine op_boxa rfl rfl fun b5 => ?_
  refine op_y (y_assign rfl) rfl ?_
  refine op_nil ?_
  refine ent_then ?_
  refine cd_seq ?_
  refine cd_seq ?_
  refine cd_draw ([]) [0, 1, 2, 3, 4, 5, 6, 7, 8, 9, 10, 11, 12, 13] [0, 0, 0, 0, 0, 0, 1, 0, 0, 0, 0, 1, 0, 0] mixed_ (by kernel_rfl) ?_
  refine op_y (y_move rfl) rfl ?_
  first | refine op_y (y_peq (r := false) Heap2.un_284 rfl rfl) rfl ?_ | refine op_y (y_peq (r := true) Heap2.un_284 rfl rfl) rfl ?_ | refine op_y (y_peq Heap2.un_284 rfl rfl) rfl ?_
  refine op_y (y_move rfl) rfl ?_
  first
   | refine op_s1 rfl rfl ⟨rfl, rfl⟩ ?_
   | refine op_s2 rfl rfl ⟨rfl, rfl⟩ ?_
   | (refine op_g rfl rfl ?_
      refine op_y (y_move rfl) rfl ?_)
  first
   | refine op_s1 rfl rfl ⟨rfl, rfl⟩ ?_
   | refine op_s2 rfl rfl ⟨rfl, rfl⟩ ?_
   | (refine op_g rfl rfl ?_
      first | refine op_y (y_nil rfl) rfl ?_ | refine op_y (y_nili rfl) rfl ?_ | refine op_y (y_nilf rfl) rfl ?_)
  first
   | refine op_s1 rfl rfl ⟨rfl, rfl⟩ ?_
   | refine op_s2 rfl rfl ⟨rfl, rfl⟩ ?_
   | (refine op_g rfl rfl ?_
      first | refine op_y (y_fld0 Heap2.fo_353_0 rfl) rfl ?_ | refine op_y (y_flda Heap2.fo_353_0 rfl) rfl ?_)
  first
   | refine op_s1 rfl rfl ⟨rfl, rfl⟩ ?_
   | refine op_s2 rfl rfl ⟨rfl, rfl⟩ ?_
   | (refine op_g rfl rfl ?_
      apply op_ld Heap2.sc_351 rfl rfl
      ·exact rm
      ·rfl)
  first
   | refine op_s1 rfl rfl ⟨rfl, rfl⟩ ?_
   | refine op_s2 rfl rfl ⟨rfl, rfl⟩ ?_
   | (refine op_g rfl rfl ?_
      refine op_y (y_len Heap2.un_351 rfl) rfl ?_)
  first
   | refine op_s1 rfl rfl ⟨rfl, rfl⟩ ?_
   | refine op_s2 rfl rfl ⟨rfl, rfl⟩ ?_
   | (refine op_g rfl rfl ?_
      refine op_y (y_move rfl) rfl ?_)
  first
   | refine op_s1 rfl rfl ⟨rfl, rfl⟩ ?_
   | refine op_s2 rfl rfl ⟨rfl, rfl⟩ ?_
   | (refine op_g rfl rfl ?_
      first | refine op_y (y_nil rfl) rfl ?_ | refine op_y (y_nili rfl) rfl ?_ | refine op_y (y_nilf rfl) rfl ?_)
  first
   | refine op_s1 rfl rfl ⟨rfl, rfl⟩ ?_
   | refine op_s2 rfl rfl ⟨rfl, rfl⟩ ?_
   | (refine op_g rfl rfl ?_
      first | refine op_y (y_fld Heap2.fo_353_2 rfl) rfl ?_ | refine op_y (y_flda Heap2.fo_353_2 rfl) rfl ?_)
  first
   | refine op_s1 rfl rfl ⟨rfl, rfl⟩ ?_
   | refine op_s2 rfl rfl ⟨rfl, rfl⟩ ?_
   | (refine op_g rfl rfl ?_
      apply op_ld Heap2.sc_3 rfl rfl
      ·exact rm
      ·rfl)
  first
   | refine op_s1 rfl rfl ⟨rfl, rfl⟩ ?_
   | refine op_s2 rfl rfl ⟨rfl, rfl⟩ ?_
   | (refine op_g rfl rfl ?_
      first | refine op_y (y_ge rfl rfl (decide_eq_true (by omega))) rfl ?_ | refine op_y (y_ge rfl rfl (decide_eq_false (by omega))) rfl ?_ | refine op_y (y_ge rfl rfl rfl) rfl ?_)
  first | refine op_y (y_pickt rfl rfl) rfl ?_ | refine op_y (y_pickf rfl rfl) rfl ?_ | refine op_y (y_pick rfl rfl rfl) rfl ?_
  refine op_nil ?_
  refine ent_then ?_
  have ef : flat En.cs es ++ [Value.int .u64 x.rank, .int .u64 came, .int .u32 x.pk.flow, .int .u32 x.pk.id, .int .u64 x.pk.len] = flat En.cs (es ++ [⟨x.rank, came, x.pk⟩]) := by rw [flat_append]; rfl
  refine cd_iff rfl ?_
  refine cd_skip ?_
  refine ent_then ?_
  refine cd_seq ?_
  refine cd_drawL [0, 1, 2, 3, 4, 5, 6, 7, 8, 9, 10, 11, 12, 13, 14, 15, 16] [0, 0, 0, 0, 3, 0, 0, 0, 0, 1, 1, 0, 4, 2, 0, 0, 2] mixed_ (by kernel_rfl) ?_
  refine op_y (y_move rfl) rfl ?_
  refine op_y (y_move rfl) rfl ?_
  first | refine op_y (y_nil rfl) rfl ?_ | refine op_y (y_nili rfl) rfl ?_ | refine op_y (y_nilf rfl) rfl ?_
  first | refine op_y (y_fld0 Heap2.fo_353_0 rfl) rfl ?_ | refine op_y (y_flda Heap2.fo_353_0 rfl) rfl ?_
  apply op_lds Heap2.sc_351 rfl rfl
  ·exact rm
  ·rfl
  ·(first | exact fun w h => h | exact fun w h => h.drop | (intro w h; apply Sat.only (h := h); exact sx))
  refine op_y (y_move rfl) rfl ?_
  refine op_y (y_move rfl) rfl ?_
  first | refine op_y (y_nil rfl) rfl ?_ | refine op_y (y_nili rfl) rfl ?_ | refine op_y (y_nilf rfl) rfl ?_
  first | refine op_y (y_fld Heap2.fo_353_1 rfl) rfl ?_ | refine op_y (y_flda Heap2.fo_353_1 rfl) rfl ?_
  apply op_ld Heap2.sc_22 rfl rfl
  ·exact rm
  ·rfl
  apply op_lda Heap2.ag_62 rfl rfl
  ·exact rm
  ·(first | ((try simp only [zz, splice, Nat.reduceAdd, Nat.zero_mul, Pk.cs, En.cs]) <;> rfl) | rfl)
  ·rfl
  apply op_build Heap2.pl_459 Heap2.ze_459 rfl rfl
  ·(first | ((try simp [fillL, splice, Value.cells, Pk.cs, En.cs]) <;> rfl) | rfl)
  apply op_bslice4 Heap2.sl_351 Heap2.ze_459 rfl rfl rfl rfl rfl
  ·(first | ((try simp [fillL, splice, Value.cells, Pk.cs, En.cs]) <;> rfl) | rfl)
  ·(first | exact fun w h => h | exact fun w h => h.drop | (intro w h; apply Sat.only (h := h); exact sx))
  intro b33
  apply op_append Heap2.sl_351 Heap2.ze_459 rfl rfl rfl (by decide) rfl
  ·exact rm
  ·(apply rds_all; exact rm)
  ·first | rfl | simp
  ·first | rfl | simp [ones]
  ·omega
  ·omega
  ·omega
  intro A34 c34
  first | refine op_y (y_nil rfl) rfl ?_ | refine op_y (y_nili rfl) rfl ?_ | refine op_y (y_nilf rfl) rfl ?_
  first | refine op_y (y_fld0 Heap2.fo_353_0 rfl) rfl ?_ | refine op_y (y_flda Heap2.fo_353_0 rfl) rfl ?_
  apply op_st1 Heap2.sz_351 rfl rfl rfl
  ·exact rm
  ·rfl
  ·(first | ((try simp only [zz, splice, Nat.reduceAdd, Nat.zero_mul, Pk.cs, En.cs]) <;> rfl) | rfl)
  refine op_nil ?_
  refine ent_then ?_
  refine cd_seq ?_
  refine cd_region [0, 0, 0, 1, 0, 0, 0, 2] ?_
  refine op_y (y_move rfl) rfl ?_
  first | refine op_y (y_nil rfl) rfl ?_ | refine op_y (y_nili rfl) rfl ?_ | refine op_y (y_nilf rfl) rfl ?_
  first | refine op_y (y_fld Heap2.fo_353_1 rfl) rfl ?_ | refine op_y (y_flda Heap2.fo_353_1 rfl) rfl ?_
  apply op_ld Heap2.sc_22 rfl rfl
  ·exact rm
  ·rfl
  first | refine op_y (y_add rfl rfl (wu64 (by omega) (by omega))) rfl ?_ | refine op_y (y_add rfl rfl rfl) rfl ?_
  first | refine op_y (y_nil rfl) rfl ?_ | refine op_y (y_nili rfl) rfl ?_ | refine op_y (y_nilf rfl) rfl ?_
  first | refine op_y (y_fld Heap2.fo_353_1 rfl) rfl ?_ | refine op_y (y_flda Heap2.fo_353_1 rfl) rfl ?_
  apply op_st1 Heap2.sz_22 rfl rfl rfl
  ·exact rm
  ·rfl
  ·(first | ((try simp only [zz, splice, Nat.reduceAdd, Nat.zero_mul, Pk.cs, En.cs]) <;> rfl) | rfl)
  refine op_nil ?_
  refine ent_then ?_
  refine cd_seq ?_
  refine cd_region [0, 0, 0, 0, 1, 0, 0, 2] ?_
  refine op_y (y_move rfl) rfl ?_
  refine op_y (y_move rfl) rfl ?_
  first | refine op_y (y_nil rfl) rfl ?_ | refine op_y (y_nili rfl) rfl ?_ | refine op_y (y_nilf rfl) rfl ?_
  first | refine op_y (y_fld0 Heap2.fo_353_0 rfl) rfl ?_ | refine op_y (y_flda Heap2.fo_353_0 rfl) rfl ?_
  apply op_ld Heap2.sc_351 rfl rfl
  ·exact rm
  ·rfl
  refine op_y (y_len Heap2.un_351 rfl) rfl ?_
  first | refine op_y (y_sub rfl rfl (wi64 (by omega) (by omega))) rfl ?_ | refine op_y (y_sub rfl rfl rfl) rfl ?_
  apply op_own
  ·exact rm
  ·omega
  ·exact ef
  rintro b r rfl hb1 hb2
  have hl2 : (es ++ [(⟨x.rank, came, x.pk⟩ : En)]).length = I.length + 1 := by simp [hlen]
  apply op_c Heap2.ca_278 rfl rfl (fun e he_ => up_ct e p b c34 _ _ r (es ++ [⟨x.rank, came, x.pk⟩]) I.length (I.length + 1) _ (by omega) (by omega) (by omega) (by omega))
  ·exact sx
  rintro _ _ ⟨es', rfl, rfl, hl', hp', hok⟩ G_ hG_
  simp only [zn] at hG_; subst hG_
  refine op_nil ?_
  refine ent_then ?_
  refine cd_seq ?_
  refine cd_region [0] ?_
  refine op_y (y_assign rfl) rfl ?_
  refine op_nil ?_
  refine ent_then ?_
  refine cd_ret ?_
  have hH : HP (insI x I) (k + 1) (ins ⟨x.rank, came, x.pk⟩ L) es' (came + 1) := by
   refine ⟨?_, ?_, hok ⟨fun j j0 hj hne => ?_, fun j j0 hj hj2 h0 => ?_⟩, ins_srt hp.srt hp.fresh, fun y hy => ?_, by omega⟩
   ·rw [ins_it hp.fresh, hp.it]; rfl
   ·refine hp'.trans ((List.perm_append_comm (l₁ := es)).trans ?_)
    exact (hp.perm.cons _).trans (ins_perm _ _).symm
   ·have h1 : j < es.length := by omega
    have := hp.ok j j0 h1
    simp only [gt, List.getD] at this ⊢
    rw [List.getElem?_append_left h1, List.getElem?_append_left (by omega)]
    exact this
   ·omega
   ·rcases List.mem_cons.1 ((ins_perm _ _).mem_iff.1 hy) with rfl | hy
    ·exact Nat.lt_succ_self _
    ·have := hp.fresh y hy; omega
  refine ent_ret1 rfl rfl ⟨_, .inr ⟨by omega, rfl, rfl⟩, fun w h => heapI_shut hH (A := some ⟨b, 0, none⟩) (cap := c34) ?_⟩
  rw [insI_length, show ((came + 1 : Nat) : Int) = (came : Int) + 1 from rfl]
  refine Sat.swap (ownS_mk (r := r) (by rw [flat_length En.cs5]; omega) ?_ (Sat.swap ?_))
  ·rw [List.length_append, flat_length En.cs5, hl', ← flat_length En.cs5, ← List.length_append]; exact hb2
  ·apply Sat.only (h := h)
   exact sx

def topV : List It → List Value
 | [] => [.int .u64 0, .agg #[.int .u32 0, .int .u32 0, .int .u64 0], .bool false]
 | x :: _ => [.int .u64 x.rank, .agg (Pk.cs x.pk).toArray, .bool true]
theorem hPeek_ct (c : Cx) (p room k : Nat) (I : List It) : Ct Tryz.prog 274 #[.pointer (some ⟨p, 0, none⟩)] c [heapI p I room k] fun v L => v = tup (topV I) ∧ L = [heapI p I room k] := by
 refine ct_fn (args := [.pointer (some ⟨p, 0, none⟩)]) [(0, .pointer (some ⟨p, 0, none⟩))] Tryz.func274 rfl Tryz.ntmps274 rfl ⟨rfl, trivial⟩ ?_
 refine cd_seq ?_
 refine cd_region [0, 2, 0] ?_
 refine op_y (y_assign rfl) rfl ?_
 refine op_alloc Heap2.ze_62 rfl fun b3 => ?_
 refine op_y (y_assign rfl) rfl ?_
 refine op_nil ?_
 refine ent_then ?_
 refine cd_seq ?_
 refine cd_region [2] ?_
 refine op_alloc Heap2.ze_62 rfl fun b5 => ?_
 refine op_nil ?_
 refine ent_then ?_
 refine cd_seq ?_
 refine cd_seq ?_
 refine cd_region [0, 2, 0] ?_
 refine op_y (y_move rfl) rfl ?_
 apply op_c Heap2.ca_269 rfl rfl (fun e he_ => hLen_ct e p room k I)
 ·exact sx
 rintro _ _ ⟨rfl, rfl⟩ G_ hG_
 simp only [zn] at hG_; subst hG_
 cases I with
 | nil =>
  skip
  first | refine op_y (y_eq rfl rfl (eqT (by omega))) rfl ?_ | refine op_y (y_eq rfl rfl (eqF (by omega))) rfl ?_ | refine op_y (y_eq rfl rfl rfl) rfl ?_
  refine op_nil ?_
  refine ent_then ?_
  refine cd_ift rfl ?_
  refine cd_seq ?_
  refine cd_draw ([]) [0, 1, 2, 3] [1, 0, 2, 0] mixed_ (by kernel_rfl) ?_
  apply op_lda Heap2.ag_62 rfl rfl
  ·exact rm
  ·(first | ((try simp only [zz, splice, Nat.reduceAdd, Nat.zero_mul, Pk.cs, En.cs]) <;> rfl) | rfl)
  ·rfl
  refine op_y (y_assign rfl) rfl ?_
  apply op_sta Heap2.sz_62 rfl rfl rfl rfl
  ·exact rm
  ·simp
  ·(first | ((try simp only [zz, splice, Nat.reduceAdd, Nat.zero_mul, Pk.cs, En.cs]) <;> rfl) | rfl)
  refine op_y (y_assign rfl) rfl ?_
  refine op_nil ?_
  refine ent_then ?_
  refine cd_ret ?_
  refine ent_thn_ret ?_
  refine ent_rets (rs := [_, _, _]) (vs := topV []) (.inl rfl) rfl ⟨rfl, ⟨_, rfl, .inr ⟨_, 3, rfl, rfl, rds_all .here, rfl⟩⟩, rfl, trivial⟩ ⟨_, ⟨rfl, rfl⟩, fun w h => ?_⟩
  apply Sat.only (h := h)
  exact sx
 | cons x I' =>
  skip
  first | refine op_y (y_eq rfl rfl (eqT (by omega))) rfl ?_ | refine op_y (y_eq rfl rfl (eqF (by omega))) rfl ?_ | refine op_y (y_eq rfl rfl rfl) rfl ?_
  refine op_nil ?_
  refine ent_then ?_
  refine cd_iff rfl ?_
  apply cd_openR (A := heapI p (x :: I') room k)
  ·exact rm
  ·exact heapI_open
  rintro ⟨L, es, A, cap, came⟩ hp
  simp only [] at hp ⊢
  apply cd_own
  ·exact rm
  ·simp
  ·rfl
  rintro b r rfl hb1 hb2
  have h0 : es[0]? = some (gt es 0) := get_gt (by have := hp.length; simp at this; omega)
  have hhead : (gt es 0).it = x := by
   cases hL : L with
   | nil => have := hp.it; simp [hL] at this
   | cons e L' => rw [head_of hp.ok hp.perm hp.srt hL]; have := hp.it; simp [hL] at this; exact this.1.symm
  have hI : 0 < (x :: I').length := by simp
  refine cd_skip ?_
  refine ent_then ?_
  refine cd_seq ?_
  refine cd_draw ([]) [0, 1, 2, 3, 4, 5, 6, 7, 8, 9, 10, 11, 12, 13, 14, 15, 16] [0, 0, 0, 1, 0, 0, 1, 0, 0, 0, 1, 0, 0, 1, 0, 2, 0] mixed_ (by kernel_rfl) ?_
  refine op_y (y_move rfl) rfl ?_
  first | refine op_y (y_nil rfl) rfl ?_ | refine op_y (y_nili rfl) rfl ?_ | refine op_y (y_nilf rfl) rfl ?_
  first | refine op_y (y_fld0 Heap2.fo_353_0 rfl) rfl ?_ | refine op_y (y_flda Heap2.fo_353_0 rfl) rfl ?_
  apply op_ld Heap2.sc_351 rfl rfl
  ·exact rm
  ·rfl
  first | refine op_y (y_ix0 Heap2.sl_351 rfl rfl rfl (by omega)) rfl ?_ | refine op_y (y_ix0 Heap2.sl_351 rfl rfl (Int.toNat_of_nonneg (by omega)).symm (by omega)) rfl ?_ | refine op_y (y_ix Heap2.sl_351 rfl rfl rfl (by omega)) rfl ?_ | refine op_y (y_ix Heap2.sl_351 rfl rfl (Int.toNat_of_nonneg (by omega)).symm (by omega)) rfl ?_ | refine op_y (y_ixa Heap2.sl_351 rfl rfl rfl (by omega)) rfl ?_ | refine op_y (y_ixa Heap2.sl_351 rfl rfl (Int.toNat_of_nonneg (by omega)).symm (by omega)) rfl ?_
  first | refine op_y (y_fld0 Heap2.fo_459_0 rfl) rfl ?_ | refine op_y (y_flda Heap2.fo_459_0 rfl) rfl ?_
  apply op_ld Heap2.sc_22 rfl rfl
  ·exact rm
  ·exact flat_get En.cs5 (j := 0) r h0 (by decide) rfl
  refine op_y (y_move rfl) rfl ?_
  first | refine op_y (y_nil rfl) rfl ?_ | refine op_y (y_nili rfl) rfl ?_ | refine op_y (y_nilf rfl) rfl ?_
  first | refine op_y (y_fld0 Heap2.fo_353_0 rfl) rfl ?_ | refine op_y (y_flda Heap2.fo_353_0 rfl) rfl ?_
  apply op_ld Heap2.sc_351 rfl rfl
  ·exact rm
  ·rfl
  first | refine op_y (y_ix0 Heap2.sl_351 rfl rfl rfl (by omega)) rfl ?_ | refine op_y (y_ix0 Heap2.sl_351 rfl rfl (Int.toNat_of_nonneg (by omega)).symm (by omega)) rfl ?_ | refine op_y (y_ix Heap2.sl_351 rfl rfl rfl (by omega)) rfl ?_ | refine op_y (y_ix Heap2.sl_351 rfl rfl (Int.toNat_of_nonneg (by omega)).symm (by omega)) rfl ?_ | refine op_y (y_ixa Heap2.sl_351 rfl rfl rfl (by omega)) rfl ?_ | refine op_y (y_ixa Heap2.sl_351 rfl rfl (Int.toNat_of_nonneg (by omega)).symm (by omega)) rfl ?_
  first | refine op_y (y_fld Heap2.fo_459_2 rfl) rfl ?_ | refine op_y (y_flda Heap2.fo_459_2 rfl) rfl ?_
  apply op_lda Heap2.ag_62 rfl rfl
  ·exact rm
  ·exact (show _ = Pk.cs (gt es 0).pk from flat_take' En.cs5 (o := 2) (k := 3) r h0 (by decide))
  ·first | rfl | simp [*]
  refine op_y (y_assign rfl) rfl ?_
  apply op_sta Heap2.sz_62 rfl rfl rfl rfl
  ·exact rm
  ·simp
  ·(first | ((try simp only [zz, splice, Nat.reduceAdd, Nat.zero_mul, Pk.cs, En.cs]) <;> rfl) | rfl)
  refine op_y (y_assign rfl) rfl ?_
  refine op_nil ?_
  refine ent_then ?_
  refine cd_ret ?_
  subst hhead
  refine ent_rets (rs := [_, _, _]) (vs := [.int .u64 (gt es 0).rank, .agg (Pk.cs (gt es 0).pk).toArray, .bool true]) (.inl rfl) rfl ⟨rfl, ⟨_, rfl, .inr ⟨_, 3, rfl, rfl, rds_all (by exact rm), rfl⟩⟩, rfl, trivial⟩ ⟨_, ⟨rfl, rfl⟩, fun w h => ?_⟩
  refine heapI_shut hp (A := some ⟨b, 0, none⟩) (cap := cap) (Sat.swap (ownS_mk (r := r) hb1 hb2 (Sat.swap ?_)))
  apply Sat.only (h := h)
  exact sx

theorem HP.pop {x : It} {I : List It} {k came : Nat} {L es es' : List En} (hp : HP (x :: I) k L es came) (h : es'.Perm (popd es I.length)) (hd : DnOK (popd es I.length) 0 → HeapOK es') : HP I k L.tail es' came := by
 have hl : es.length = I.length + 1 := by have := hp.length; simpa using this
 cases hL : L with
 | nil => have := hp.it; simp [hL] at this
 | cons e L' =>
  have h0 := head_of hp.ok hp.perm hp.srt hL
  have hit := hp.it
  rw [hL] at hit
  simp only [List.map_cons, List.cons.injEq] at hit
  refine ⟨hit.2, ?_, hd (popd_dn hl hp.ok), ?_, fun y hy => hp.fresh y (by rw [hL]; exact List.mem_cons_of_mem _ hy), hp.le⟩
  ·have h1 := (popd_perm hl).symm.trans hp.perm
   rw [hL, h0] at h1
   exact h.trans (List.Perm.cons_inv h1)
  ·have := hp.srt; rw [hL] at this; exact (List.pairwise_cons.1 this).2
theorem hPop_ct (c : Cx) (p room k : Nat) (I : List It) (hI : I.length ≤ 90000) : Ct Tryz.prog 275 #[.pointer (some ⟨p, 0, none⟩)] c [heapI p I room k] fun v L => v = tup (topV I) ∧ L = [heapI p I.tail room k] := by
 refine ct_fn (args := [.pointer (some ⟨p, 0, none⟩)]) [(0, .pointer (some ⟨p, 0, none⟩))] Tryz.func275 rfl Tryz.ntmps275 rfl ⟨rfl, trivial⟩ ?_
 refine cd_seq ?_
 refine cd_region [0, 2, 0] ?_
 refine op_y (y_assign rfl) rfl ?_
 refine op_alloc Heap2.ze_62 rfl fun b3 => ?_
 refine op_y (y_assign rfl) rfl ?_
 refine op_nil ?_
 refine ent_then ?_
 refine cd_seq ?_
 refine cd_region [0, 2, 0, 0, 0, 0, 2, 0, 2, 0] ?_
 refine op_y (y_move rfl) rfl ?_
 apply op_c Heap2.ca_274 rfl rfl (fun e he_ => hPeek_ct e p room k I)
 ·exact sx
 rintro _ _ ⟨rfl, rfl⟩ G_ hG_
 simp only [zn] at hG_; subst hG_
 cases I with
 | nil =>
  skip
  refine op_y (y_move rfl) rfl ?_
  refine op_y (y_ext rfl rfl) rfl ?_
  refine op_y (y_ext rfl rfl) rfl ?_
  refine op_y (y_ext rfl rfl) rfl ?_
  refine op_alloc Heap2.ze_62 rfl fun b6 => ?_
  refine op_y (y_assign rfl) rfl ?_
  apply op_sta Heap2.sz_62 rfl rfl rfl rfl
  ·exact rm
  ·simp
  ·(first | ((try simp only [zz, splice, Nat.reduceAdd, Nat.zero_mul, Pk.cs, En.cs]) <;> rfl) | rfl)
  refine op_y (y_assign rfl) rfl ?_
  refine op_nil ?_
  refine ent_then ?_
  refine cd_seq ?_
  refine cd_seq ?_
  refine cd_region [0] ?_
  refine op_y (y_move rfl) rfl ?_
  refine op_nil ?_
  refine ent_then ?_
  refine cd_iff rfl ?_
  refine cd_skip ?_
  refine ent_then ?_
  refine cd_seq ?_
  refine cd_draw ([]) [0, 1, 2, 3, 4, 5] [0, 1, 0, 0, 2, 0] mixed_ (by kernel_rfl) ?_
  refine op_y (y_move rfl) rfl ?_
  apply op_lda Heap2.ag_62 rfl rfl
  ·exact rm
  ·(first | ((try simp only [zz, splice, Nat.reduceAdd, Nat.zero_mul, Pk.cs, En.cs]) <;> rfl) | rfl)
  ·rfl
  refine op_y (y_move rfl) rfl ?_
  refine op_y (y_assign rfl) rfl ?_
  apply op_sta Heap2.sz_62 rfl rfl rfl rfl
  ·exact rm
  ·simp
  ·(first | ((try simp only [zz, splice, Nat.reduceAdd, Nat.zero_mul, Pk.cs, En.cs]) <;> rfl) | rfl)
  refine op_y (y_assign rfl) rfl ?_
  refine op_nil ?_
  refine ent_then ?_
  refine cd_ret ?_
  refine ent_rets (rs := [_, _, _]) (vs := topV []) (.inl rfl) rfl ⟨rfl, ⟨_, rfl, .inr ⟨_, 3, rfl, rfl, rds_all (by exact rm), rfl⟩⟩, rfl, trivial⟩ ⟨_, ⟨rfl, rfl⟩, fun w h => ?_⟩
  show Sat [heapI p [] room k] c w
  apply Sat.only (h := h)
  exact sx
 | cons x I' =>
  skip
  refine op_y (y_move rfl) rfl ?_
  refine op_y (y_ext rfl rfl) rfl ?_
  refine op_y (y_ext rfl rfl) rfl ?_
  refine op_y (y_ext rfl rfl) rfl ?_
  refine op_alloc Heap2.ze_62 rfl fun b6 => ?_
  refine op_y (y_assign rfl) rfl ?_
  apply op_sta Heap2.sz_62 rfl rfl rfl rfl
  ·exact rm
  ·simp
  ·(first | ((try simp only [zz, splice, Nat.reduceAdd, Nat.zero_mul, Pk.cs, En.cs]) <;> rfl) | rfl)
  refine op_y (y_assign rfl) rfl ?_
  refine op_nil ?_
  refine ent_then ?_
  refine cd_seq ?_
  refine cd_seq ?_
  refine cd_region [0] ?_
  refine op_y (y_move rfl) rfl ?_
  refine op_nil ?_
  refine ent_then ?_
  refine cd_ift rfl ?_
  apply cd_openR (A := heapI p (x :: I') room k)
  ·exact rm
  ·exact heapI_open
  rintro ⟨L, es, A, cap, came⟩ hp
  have hIl : (x :: I').length = I'.length + 1 := rfl
  simp only [hIl] at hp ⊢
  apply cd_own
  ·exact rm
  ·simp
  ·rfl
  rintro b r rfl hb1 hb2
  have hl : es.length = I'.length + 1 := by have := hp.length; simpa using this
  have hcap : I'.length + 1 ≤ cap := by
   rw [List.length_append, flat_length En.cs5, hl] at hb2; omega
  refine cd_seq ?_
  refine cd_region [0, 0, 0, 1, 0, 0, 0] ?_
  refine op_y (y_move rfl) rfl ?_
  first | refine op_y (y_nil rfl) rfl ?_ | refine op_y (y_nili rfl) rfl ?_ | refine op_y (y_nilf rfl) rfl ?_
  first | refine op_y (y_fld0 Heap2.fo_353_0 rfl) rfl ?_ | refine op_y (y_flda Heap2.fo_353_0 rfl) rfl ?_
  apply op_ld Heap2.sc_351 rfl rfl
  ·exact rm
  ·rfl
  refine op_y (y_len Heap2.un_351 rfl) rfl ?_
  first | refine op_y (y_sub rfl rfl (wi64 (by omega) (by omega))) rfl ?_ | refine op_y (y_sub rfl rfl rfl) rfl ?_
  refine op_y (y_assign rfl) rfl ?_
  refine op_nil ?_
  refine ent_then ?_
  refine cd_seq ?_
  refine cd_draw ([]) [0, 1, 2, 3, 4, 5, 6, 7, 8, 9, 10, 11, 12] [0, 0, 0, 1, 0, 0, 0, 1, 0, 0, 1, 0, 2] mixed_ (by kernel_rfl) ?_
  refine op_y (y_move rfl) rfl ?_
  first | refine op_y (y_nil rfl) rfl ?_ | refine op_y (y_nili rfl) rfl ?_ | refine op_y (y_nilf rfl) rfl ?_
  first | refine op_y (y_fld0 Heap2.fo_353_0 rfl) rfl ?_ | refine op_y (y_flda Heap2.fo_353_0 rfl) rfl ?_
  apply op_ld Heap2.sc_351 rfl rfl
  ·exact rm
  ·rfl
  refine op_y (y_move rfl) rfl ?_
  first | refine op_y (y_nil rfl) rfl ?_ | refine op_y (y_nili rfl) rfl ?_ | refine op_y (y_nilf rfl) rfl ?_
  first | refine op_y (y_fld0 Heap2.fo_353_0 rfl) rfl ?_ | refine op_y (y_flda Heap2.fo_353_0 rfl) rfl ?_
  apply op_ld Heap2.sc_351 rfl rfl
  ·exact rm
  ·rfl
  refine op_y (y_move rfl) rfl ?_
  first | refine op_y (y_ix0 (j := I'.length) Heap2.sl_351 rfl rfl (by omega) (by omega)) rfl ?_ | refine op_y (y_ix (j := I'.length) Heap2.sl_351 rfl rfl (by omega) (by omega)) rfl ?_ | refine op_y (y_ixa (j := I'.length) Heap2.sl_351 rfl rfl (by omega) (by omega)) rfl ?_
  apply op_lda Heap2.ag_459 rfl rfl
  ·exact rm
  ·exact flat_take En.cs5 r (get_gt (by omega))
  ·first | rfl | simp [*]
  first | refine op_y (y_ix0 Heap2.sl_351 rfl rfl rfl (by omega)) rfl ?_ | refine op_y (y_ix0 Heap2.sl_351 rfl rfl (Int.toNat_of_nonneg (by omega)).symm (by omega)) rfl ?_ | refine op_y (y_ix Heap2.sl_351 rfl rfl rfl (by omega)) rfl ?_ | refine op_y (y_ix Heap2.sl_351 rfl rfl (Int.toNat_of_nonneg (by omega)).symm (by omega)) rfl ?_ | refine op_y (y_ixa Heap2.sl_351 rfl rfl rfl (by omega)) rfl ?_ | refine op_y (y_ixa Heap2.sl_351 rfl rfl (Int.toNat_of_nonneg (by omega)).symm (by omega)) rfl ?_
  apply op_sta Heap2.sz_459 rfl rfl rfl rfl
  ·exact rm
  ·(rw [List.length_append, flat_length En.cs5]; omega)
  ·exact flat_splice En.cs5 (i := 0) _ r (by omega)
  refine op_nil ?_
  refine ent_then ?_
  refine cd_seq ?_
  refine cd_region [0, 0, 0, 1, 0, 0, 0, 2] ?_
  refine op_y (y_move rfl) rfl ?_
  first | refine op_y (y_nil rfl) rfl ?_ | refine op_y (y_nili rfl) rfl ?_ | refine op_y (y_nilf rfl) rfl ?_
  first | refine op_y (y_fld0 Heap2.fo_353_0 rfl) rfl ?_ | refine op_y (y_flda Heap2.fo_353_0 rfl) rfl ?_
  apply op_ld Heap2.sc_351 rfl rfl
  ·exact rm
  ·rfl
  refine op_y (y_move rfl) rfl ?_
  apply op_build Heap2.pl_459 Heap2.ze_459 rfl rfl
  ·(first | ((try simp [fillL, splice, Value.cells, Pk.cs, En.cs]) <;> rfl) | rfl)
  first | refine op_y (y_ix0 (j := I'.length) Heap2.sl_351 rfl rfl (by omega) (by omega)) rfl ?_ | refine op_y (y_ix (j := I'.length) Heap2.sl_351 rfl rfl (by omega) (by omega)) rfl ?_ | refine op_y (y_ixa (j := I'.length) Heap2.sl_351 rfl rfl (by omega) (by omega)) rfl ?_
  apply op_sta Heap2.sz_459 rfl rfl rfl rfl
  ·exact rm
  ·(rw [List.length_append, flat_length En.cs5, List.length_set]; omega)
  ·exact flat_splice En.cs5 (i := I'.length) (⟨0, 0, ⟨0, 0, 0⟩⟩ : En) r (by rw [List.length_set]; omega)
  refine op_nil ?_
  refine ent_then ?_
  refine cd_seq ?_
  refine cd_region [0, 0, 0, 0, 1, 0, 0, 0, 0, 2] ?_
  refine op_y (y_move rfl) rfl ?_
  refine op_y (y_move rfl) rfl ?_
  first | refine op_y (y_nil rfl) rfl ?_ | refine op_y (y_nili rfl) rfl ?_ | refine op_y (y_nilf rfl) rfl ?_
  first | refine op_y (y_fld0 Heap2.fo_353_0 rfl) rfl ?_ | refine op_y (y_flda Heap2.fo_353_0 rfl) rfl ?_
  apply op_ld Heap2.sc_351 rfl rfl
  ·exact rm
  ·rfl
  refine op_y (y_move rfl) rfl ?_
  refine op_y (y_slh (j := I'.length) Heap2.sl_351 rfl rfl (by omega) (by omega)) rfl ?_
  first | refine op_y (y_nil rfl) rfl ?_ | refine op_y (y_nili rfl) rfl ?_ | refine op_y (y_nilf rfl) rfl ?_
  first | refine op_y (y_fld0 Heap2.fo_353_0 rfl) rfl ?_ | refine op_y (y_flda Heap2.fo_353_0 rfl) rfl ?_
  apply op_st1 Heap2.sz_351 rfl rfl rfl
  ·exact rm
  ·rfl
  ·(first | ((try simp only [zz, splice, Nat.reduceAdd, Nat.zero_mul, Pk.cs, En.cs]) <;> rfl) | rfl)
  refine op_nil ?_
  refine ent_then ?_
  have e : flat En.cs ((es.set 0 (gt es I'.length)).set I'.length ⟨0, 0, ⟨0, 0, 0⟩⟩) ++ r = flat En.cs (popd es I'.length) ++ (En.cs ⟨0, 0, ⟨0, 0, 0⟩⟩ ++ r) := by
   have : (es.set 0 (gt es I'.length)).set I'.length ⟨0, 0, ⟨0, 0, 0⟩⟩ = popd es I'.length ++ [⟨0, 0, ⟨0, 0, 0⟩⟩] := by
    rw [List.set_eq_take_append_cons_drop, if_pos (by rw [List.length_set]; omega), List.drop_eq_nil_of_le (by rw [List.length_set]; omega)]; rfl
   rw [this, flat_append, List.append_assoc]; rfl
  obtain ⟨r2, er⟩ : ∃ r2, En.cs ⟨0, 0, ⟨0, 0, 0⟩⟩ ++ r = r2 := ⟨_, rfl⟩
  have er2 : r2.length = 5 + r.length := by rw [← er, List.length_append, En.cs5]
  rw [e, er]
  refine cd_region [0, 2] ?_
  refine op_y (y_move rfl) rfl ?_
  apply op_c Heap2.ca_277 rfl rfl (fun e he_ => down_ct e p b cap _ _ _ (popd es I'.length) I'.length (by rw [popd_length hl]; simp at hI; omega) (popd_length hl).symm)
  ·exact sx
  rintro _ _ ⟨es', rfl, rfl, hl', hp', hok⟩ G_ hG_
  simp only [zn] at hG_; subst hG_
  refine op_nil ?_
  refine ent_then ?_
  refine cd_seq ?_
  refine cd_draw ([]) [0, 1, 2, 3, 4, 5] [0, 1, 0, 0, 2, 0] mixed_ (by kernel_rfl) ?_
  refine op_y (y_move rfl) rfl ?_
  apply op_lda Heap2.ag_62 rfl rfl
  ·exact rm
  ·(first | ((try simp only [zz, splice, Nat.reduceAdd, Nat.zero_mul, Pk.cs, En.cs]) <;> rfl) | rfl)
  ·rfl
  refine op_y (y_move rfl) rfl ?_
  refine op_y (y_assign rfl) rfl ?_
  apply op_sta Heap2.sz_62 rfl rfl rfl rfl
  ·exact rm
  ·simp
  ·(first | ((try simp only [zz, splice, Nat.reduceAdd, Nat.zero_mul, Pk.cs, En.cs]) <;> rfl) | rfl)
  refine op_y (y_assign rfl) rfl ?_
  refine op_nil ?_
  refine ent_then ?_
  refine cd_ret ?_
  refine ent_rets (rs := [_, _, _]) (vs := [.int .u64 x.rank, .agg (Pk.cs x.pk).toArray, .bool true]) (.inl rfl) rfl ⟨rfl, ⟨_, rfl, .inr ⟨_, 3, rfl, rfl, rds_all (by exact rm), rfl⟩⟩, rfl, trivial⟩ ⟨_, ⟨rfl, rfl⟩, fun w h => ?_⟩
  have hl2 : (flat En.cs es').length = I'.length * 5 := by rw [flat_length En.cs5, hl', popd_length hl]
  refine heapI_shut (I := I') (hp.pop hp' hok) (A := some ⟨b, 0, none⟩) (cap := cap) (Sat.swap (ownS_mk (r := r2) hl2 ?_ (Sat.swap ?_)))
  ·rw [List.length_append, hl2]; rw [List.length_append, hb1] at hb2; omega
  apply Sat.only (h := h)
  exact sx
end Go.Proofs.YtfkadaodnaaceaaGreatDoor
/- The pool: its cells and queues' ends as lists, and what each function does to them. -/
namespace Go.Proofs.YtfkadaodnaaceaaGreatDoor
open Go Go.SL
theorem Pool.ag_62 : aggK Tryz.prog 62 = some 3 := by kernel_rfl
theorem Pool.ca_301 : callable Tryz.prog 301 = true := by kernel_rfl
theorem Pool.ca_302 : callable Tryz.prog 302 = true := by kernel_rfl
theorem Pool.fo_409_0 : fieldOff Tryz.prog 409 0 = some 0 := by kernel_rfl
theorem Pool.fo_409_1 : fieldOff Tryz.prog 409 1 = some 1 := by kernel_rfl
theorem Pool.fo_409_4 : fieldOff Tryz.prog 409 4 = some 4 := by kernel_rfl
theorem Pool.fo_411_0 : fieldOff Tryz.prog 411 0 = some 0 := by kernel_rfl
theorem Pool.fo_471_0 : fieldOff Tryz.prog 471 0 = some 0 := by kernel_rfl
theorem Pool.fo_471_2 : fieldOff Tryz.prog 471 2 = some 4 := by kernel_rfl
theorem Pool.sc_3 : scalarT Tryz.prog 3 = true := by kernel_rfl
theorem Pool.sc_4 : scalarT Tryz.prog 4 = true := by kernel_rfl
theorem Pool.sc_21 : scalarT Tryz.prog 21 = true := by kernel_rfl
theorem Pool.sc_406 : scalarT Tryz.prog 406 = true := by kernel_rfl
theorem Pool.sc_407 : scalarT Tryz.prog 407 = true := by kernel_rfl
theorem Pool.sl_406 : sliceK Tryz.prog 406 = some (411, 2, 8) := by kernel_rfl
theorem Pool.sl_407 : sliceK Tryz.prog 407 = some (471, 6, 24) := by kernel_rfl
theorem Pool.sz_62 : sizeK Tryz.prog 62 = some 3 := by kernel_rfl
theorem Pool.un_3 : Tryz.prog.underlying 3 = some (.int .i64) := by kernel_rfl
theorem Pool.un_21 : Tryz.prog.underlying 21 = some (.int .i32) := by kernel_rfl
theorem Pool.un_357 : Tryz.prog.underlying 357 = some (.pointer 409) := by kernel_rfl
theorem Pool.un_406 : Tryz.prog.underlying 406 = some (.slice 411) := by kernel_rfl
theorem Pool.un_407 : Tryz.prog.underlying 407 = some (.slice 471) := by kernel_rfl
theorem Pool.ze_62 : zeroC Tryz.prog 62 = some [.int .u32 0, .int .u32 0, .int .u64 0] := by kernel_rfl
set_option maxRecDepth 100000
set_option maxHeartbeats 1000000
structure Pc where
 x : Pk
 next : Int
 taken : Bool
 queued : Bool
 deriving DecidableEq, Inhabited
structure Eh where
 head : Int
 tail : Int
 deriving DecidableEq, Inhabited
abbrev Pc.cs (e : Pc) : List Value := [.int .u32 e.x.flow, .int .u32 e.x.id, .int .u64 e.x.len, .int .i32 e.next, .bool e.taken, .bool e.queued]
abbrev Eh.cs (e : Eh) : List Value := [.int .i32 e.head, .int .i32 e.tail]
theorem Pc.cs6 (e : Pc) : (Pc.cs e).length = 6 := rfl
theorem Eh.cs2 (e : Eh) : (Eh.cs e).length = 2 := rfl
structure PM where
 cells : List Pc
 ends : List Eh
 free : Int
 n : Nat
abbrev pcs (A : Option Addr) (nc cap b2 ne : Nat) (room : Nat) (free : Int) (n : Int) : List Value :=
 [.slice A nc cap, .slice (some ⟨b2, 0, none⟩) ne ne, .int .i64 room, .int .i32 free, .int .i64 n]
/-- A pool at block p. -/
def poolC (p room : Nat) (m : PM) : As := fun h => ∃ x : Option Addr × Nat × Nat,
 sepL [pt p 409 (pcs x.1 m.cells.length x.2.1 x.2.2 m.ends.length room m.free m.n), ownS 471 6 x.1 m.cells.length x.2.1 (flat Pc.cs m.cells), pt x.2.2 411 (flat Eh.cs m.ends ++ [])] h
theorem poolC_open {p room : Nat} {m : PM} {M : List As} {c : Cx} (w : World) (h : Sat (poolC p room m :: M) c w) : ∃ x : Option Addr × Nat × Nat, True ∧
 Sat (pt p 409 (pcs x.1 m.cells.length x.2.1 x.2.2 m.ends.length room m.free m.n) :: ownS 471 6 x.1 m.cells.length x.2.1 (flat Pc.cs m.cells) :: pt x.2.2 411 (flat Eh.cs m.ends ++ []) :: M) c w := by
 obtain ⟨h1, ⟨x, hs⟩, d, k⟩ := h
 exact ⟨x, trivial, Sat.sepL_iff.1 ⟨h1, hs, d, k⟩⟩
theorem poolC_shut {p room cap b2 : Nat} {m : PM} {A : Option Addr} {M : List As} {c : Cx} {w : World}
 (h : Sat (pt p 409 (pcs A m.cells.length cap b2 m.ends.length room m.free m.n) :: ownS 471 6 A m.cells.length cap (flat Pc.cs m.cells) :: pt b2 411 (flat Eh.cs m.ends ++ []) :: M) c w) : Sat (poolC p room m :: M) c w := by
 obtain ⟨h1, hs, d, k⟩ := Sat.sepL_iff.2 (show Sat ([_, _, _] ++ M) c w from h)
 exact ⟨h1, ⟨(A, cap, b2), hs⟩, d, k⟩
/-- As poolC_open, of a pool that has a cell. -/
theorem poolC_open1 {p room : Nat} {m : PM} {M : List As} {c : Cx} {i : Nat} {e : Pc} (hc : m.cells[i]? = some e) (w : World) (h : Sat (poolC p room m :: M) c w) : ∃ x : Nat × List Value × Nat × Nat, (flat Pc.cs m.cells ++ x.2.1).length = x.2.2.1 * 6 ∧
 Sat (pt p 409 (pcs (some ⟨x.1, 0, none⟩) m.cells.length x.2.2.1 x.2.2.2 m.ends.length room m.free m.n) :: pt x.1 471 (flat Pc.cs m.cells ++ x.2.1) :: pt x.2.2.2 411 (flat Eh.cs m.ends ++ []) :: M) c w := by
 obtain ⟨⟨A, cap, b2⟩, _, hs⟩ := poolC_open w h
 have hi : i < m.cells.length := (List.getElem?_eq_some_iff.1 hc).1
 obtain ⟨b, r, hA, _, h3, h4⟩ := ownS_pos (by omega) (Sat.swap hs)
 simp only at hA
 subst hA
 exact ⟨(b, r, cap, b2), h3, Sat.swap h4⟩
theorem poolC_shut1 {p room cap b b2 : Nat} {m : PM} {r : List Value} {M : List As} {c : Cx} {w : World} (hl : (flat Pc.cs m.cells ++ r).length = cap * 6)
 (h : Sat (pt p 409 (pcs (some ⟨b, 0, none⟩) m.cells.length cap b2 m.ends.length room m.free m.n) :: pt b 471 (flat Pc.cs m.cells ++ r) :: pt b2 411 (flat Eh.cs m.ends ++ []) :: M) c w) : Sat (poolC p room m :: M) c w :=
 poolC_shut (Sat.swap (ownS_mk (r := r) (flat_length Pc.cs6 _) hl (Sat.swap h)))

theorem pLen_ct (c : Cx) (p room : Nat) (m : PM) : Ct Tryz.prog 292 #[.pointer (some ⟨p, 0, none⟩)] c [poolC p room m] fun v L => v = .int .i64 m.n ∧ L = [poolC p room m] := by
 refine ct_fn (args := [.pointer (some ⟨p, 0, none⟩)]) [(0, .pointer (some ⟨p, 0, none⟩))] Tryz.func292 rfl Tryz.ntmps292 rfl ⟨rfl, trivial⟩ ?_
 refine cd_open poolC_open ?_
 rintro ⟨A, cap, b2⟩ -
 simp only []
 refine cd_seq ?_
 refine cd_region [0] ?_
 refine op_y (y_assign rfl) rfl ?_
 refine op_nil ?_
 refine ent_then ?_
 refine cd_seq ?_
 refine cd_seq ?_
 refine cd_region [0, 0] ?_
 refine op_y (y_move rfl) rfl ?_
 first | refine op_y (y_peq (r := false) Pool.un_357 rfl rfl) rfl ?_ | refine op_y (y_peq (r := true) Pool.un_357 rfl rfl) rfl ?_ | refine op_y (y_peq Pool.un_357 rfl rfl) rfl ?_
 refine op_nil ?_
 refine ent_then ?_
 refine cd_iff rfl ?_
 refine cd_skip ?_
 refine ent_then ?_
 refine cd_seq ?_
 refine cd_region [0, 0, 0, 1, 0] ?_
 refine op_y (y_move rfl) rfl ?_
 first | refine op_y (y_nil rfl) rfl ?_ | refine op_y (y_nili rfl) rfl ?_ | refine op_y (y_nilf rfl) rfl ?_
 first | refine op_y (y_fld Pool.fo_409_4 rfl) rfl ?_ | refine op_y (y_flda Pool.fo_409_4 rfl) rfl ?_
 apply op_ld Pool.sc_3 rfl rfl
 ·exact rm
 ·rfl
 refine op_y (y_assign rfl) rfl ?_
 refine op_nil ?_
 refine ent_then ?_
 refine cd_ret ?_
 refine ent_ret1 rfl rfl ⟨_, ⟨rfl, rfl⟩, fun w h => poolC_shut h⟩

theorem pHas_ct (c : Cx) (p room : Nat) (m : PM) (q : Nat) (hq : q < m.ends.length) : Ct Tryz.prog 301 #[.pointer (some ⟨p, 0, none⟩), .int .i64 q] c [poolC p room m] fun v L => v = .bool true ∧ L = [poolC p room m] := by
 refine ct_fn (args := [.pointer (some ⟨p, 0, none⟩), .int .i64 q]) [(0, .pointer (some ⟨p, 0, none⟩)), (1, .int .i64 q)] Tryz.func301 rfl Tryz.ntmps301 rfl ⟨rfl, rfl, trivial⟩ ?_
 refine cd_open poolC_open ?_
 rintro ⟨A, cap, b2⟩ -
 simp only []
 refine cd_seq ?_
 refine cd_region [0] ?_
 refine op_y (y_assign rfl) rfl ?_
 refine op_nil ?_
 refine ent_then ?_
 refine cd_seq ?_
 refine cd_region [0, 0, 0, 0, 0, 0, 0, 0, 0, 0, 0, 1, 0, 0, 0, 0] ?_
 refine op_y (y_move rfl) rfl ?_
 first | refine op_y (y_pne (r := false) Pool.un_357 rfl rfl) rfl ?_ | refine op_y (y_pne (r := true) Pool.un_357 rfl rfl) rfl ?_ | refine op_y (y_pne Pool.un_357 rfl rfl) rfl ?_
 refine op_y (y_move rfl) rfl ?_
 first
  | refine op_s1 rfl rfl ⟨rfl, rfl⟩ ?_
  | refine op_s2 rfl rfl ⟨rfl, rfl⟩ ?_
  | (refine op_g rfl rfl ?_
     refine op_y (y_move rfl) rfl ?_)
 first
  | refine op_s1 rfl rfl ⟨rfl, rfl⟩ ?_
  | refine op_s2 rfl rfl ⟨rfl, rfl⟩ ?_
  | (refine op_g rfl rfl ?_
     first | refine op_y (y_ge rfl rfl (decide_eq_true (by omega))) rfl ?_ | refine op_y (y_ge rfl rfl (decide_eq_false (by omega))) rfl ?_ | refine op_y (y_ge rfl rfl rfl) rfl ?_)
 first | refine op_y (y_pickt rfl rfl) rfl ?_ | refine op_y (y_pickf rfl rfl) rfl ?_ | refine op_y (y_pick rfl rfl rfl) rfl ?_
 refine op_y (y_move rfl) rfl ?_
 first
  | refine op_s1 rfl rfl ⟨rfl, rfl⟩ ?_
  | refine op_s2 rfl rfl ⟨rfl, rfl⟩ ?_
  | (refine op_g rfl rfl ?_
     refine op_y (y_move rfl) rfl ?_)
 first
  | refine op_s1 rfl rfl ⟨rfl, rfl⟩ ?_
  | refine op_s2 rfl rfl ⟨rfl, rfl⟩ ?_
  | (refine op_g rfl rfl ?_
     refine op_y (y_move rfl) rfl ?_)
 first
  | refine op_s1 rfl rfl ⟨rfl, rfl⟩ ?_
  | refine op_s2 rfl rfl ⟨rfl, rfl⟩ ?_
  | (refine op_g rfl rfl ?_
     first | refine op_y (y_nil rfl) rfl ?_ | refine op_y (y_nili rfl) rfl ?_ | refine op_y (y_nilf rfl) rfl ?_)
 first
  | refine op_s1 rfl rfl ⟨rfl, rfl⟩ ?_
  | refine op_s2 rfl rfl ⟨rfl, rfl⟩ ?_
  | (refine op_g rfl rfl ?_
     first | refine op_y (y_fld Pool.fo_409_1 rfl) rfl ?_ | refine op_y (y_flda Pool.fo_409_1 rfl) rfl ?_)
 first
  | refine op_s1 rfl rfl ⟨rfl, rfl⟩ ?_
  | refine op_s2 rfl rfl ⟨rfl, rfl⟩ ?_
  | (refine op_g rfl rfl ?_
     apply op_ld Pool.sc_406 rfl rfl
     ·exact rm
     ·rfl)
 first
  | refine op_s1 rfl rfl ⟨rfl, rfl⟩ ?_
  | refine op_s2 rfl rfl ⟨rfl, rfl⟩ ?_
  | (refine op_g rfl rfl ?_
     refine op_y (y_len Pool.un_406 rfl) rfl ?_)
 first
  | refine op_s1 rfl rfl ⟨rfl, rfl⟩ ?_
  | refine op_s2 rfl rfl ⟨rfl, rfl⟩ ?_
  | (refine op_g rfl rfl ?_
     first | refine op_y (y_lt rfl rfl (decide_eq_true (by omega))) rfl ?_ | refine op_y (y_lt rfl rfl (decide_eq_false (by omega))) rfl ?_ | refine op_y (y_lt rfl rfl rfl) rfl ?_)
 first | refine op_y (y_pickt rfl rfl) rfl ?_ | refine op_y (y_pickf rfl rfl) rfl ?_ | refine op_y (y_pick rfl rfl rfl) rfl ?_
 refine op_y (y_assign rfl) rfl ?_
 refine op_nil ?_
 refine ent_then ?_
 refine cd_ret ?_
 refine ent_ret1 rfl rfl ⟨_, ⟨rfl, rfl⟩, fun w h => poolC_shut h⟩

theorem pTaken_ct (c : Cx) (p room : Nat) (m : PM) (i : Nat) (e : Pc) (he : m.cells[i]? = some e) : Ct Tryz.prog 302 #[.pointer (some ⟨p, 0, none⟩), .int .i64 i] c [poolC p room m] fun v L => v = .bool e.taken ∧ L = [poolC p room m] := by
 have hi : i < m.cells.length := (List.getElem?_eq_some_iff.1 he).1
 refine ct_fn (args := [.pointer (some ⟨p, 0, none⟩), .int .i64 i]) [(0, .pointer (some ⟨p, 0, none⟩)), (1, .int .i64 i)] Tryz.func302 rfl Tryz.ntmps302 rfl ⟨rfl, rfl, trivial⟩ ?_
 refine cd_open (poolC_open1 he) ?_
 rintro ⟨b, r, cap, b2⟩ hl
 simp only [] at hl ⊢
 refine cd_seq ?_
 refine cd_region [0] ?_
 refine op_y (y_assign rfl) rfl ?_
 refine op_nil ?_
 refine ent_then ?_
 refine cd_seq ?_
 refine cd_region [0, 0, 0, 0, 0, 0, 0, 0, 0, 0, 0, 1, 0, 0, 0, 0, 0, 0, 0, 1, 0, 0, 0, 1, 0, 0] ?_
 refine op_y (y_move rfl) rfl ?_
 first | refine op_y (y_pne (r := false) Pool.un_357 rfl rfl) rfl ?_ | refine op_y (y_pne (r := true) Pool.un_357 rfl rfl) rfl ?_ | refine op_y (y_pne Pool.un_357 rfl rfl) rfl ?_
 refine op_y (y_move rfl) rfl ?_
 first
  | refine op_s1 rfl rfl ⟨rfl, rfl⟩ ?_
  | refine op_s2 rfl rfl ⟨rfl, rfl⟩ ?_
  | (refine op_g rfl rfl ?_
     refine op_y (y_move rfl) rfl ?_)
 first
  | refine op_s1 rfl rfl ⟨rfl, rfl⟩ ?_
  | refine op_s2 rfl rfl ⟨rfl, rfl⟩ ?_
  | (refine op_g rfl rfl ?_
     first | refine op_y (y_ge rfl rfl (decide_eq_true (by omega))) rfl ?_ | refine op_y (y_ge rfl rfl (decide_eq_false (by omega))) rfl ?_ | refine op_y (y_ge rfl rfl rfl) rfl ?_)
 first | refine op_y (y_pickt rfl rfl) rfl ?_ | refine op_y (y_pickf rfl rfl) rfl ?_ | refine op_y (y_pick rfl rfl rfl) rfl ?_
 refine op_y (y_move rfl) rfl ?_
 first
  | refine op_s1 rfl rfl ⟨rfl, rfl⟩ ?_
  | refine op_s2 rfl rfl ⟨rfl, rfl⟩ ?_
  | (refine op_g rfl rfl ?_
     refine op_y (y_move rfl) rfl ?_)
 first
  | refine op_s1 rfl rfl ⟨rfl, rfl⟩ ?_
  | refine op_s2 rfl rfl ⟨rfl, rfl⟩ ?_
  | (refine op_g rfl rfl ?_
     refine op_y (y_move rfl) rfl ?_)
 first
  | refine op_s1 rfl rfl ⟨rfl, rfl⟩ ?_
  | refine op_s2 rfl rfl ⟨rfl, rfl⟩ ?_
  | (refine op_g rfl rfl ?_
     first | refine op_y (y_nil rfl) rfl ?_ | refine op_y (y_nili rfl) rfl ?_ | refine op_y (y_nilf rfl) rfl ?_)
 first
  | refine op_s1 rfl rfl ⟨rfl, rfl⟩ ?_
  | refine op_s2 rfl rfl ⟨rfl, rfl⟩ ?_
  | (refine op_g rfl rfl ?_
     first | refine op_y (y_fld0 Pool.fo_409_0 rfl) rfl ?_ | refine op_y (y_flda Pool.fo_409_0 rfl) rfl ?_)
 first
  | refine op_s1 rfl rfl ⟨rfl, rfl⟩ ?_
  | refine op_s2 rfl rfl ⟨rfl, rfl⟩ ?_
  | (refine op_g rfl rfl ?_
     apply op_ld Pool.sc_407 rfl rfl
     ·exact rm
     ·rfl)
 first
  | refine op_s1 rfl rfl ⟨rfl, rfl⟩ ?_
  | refine op_s2 rfl rfl ⟨rfl, rfl⟩ ?_
  | (refine op_g rfl rfl ?_
     refine op_y (y_len Pool.un_407 rfl) rfl ?_)
 first
  | refine op_s1 rfl rfl ⟨rfl, rfl⟩ ?_
  | refine op_s2 rfl rfl ⟨rfl, rfl⟩ ?_
  | (refine op_g rfl rfl ?_
     first | refine op_y (y_lt rfl rfl (decide_eq_true (by omega))) rfl ?_ | refine op_y (y_lt rfl rfl (decide_eq_false (by omega))) rfl ?_ | refine op_y (y_lt rfl rfl rfl) rfl ?_)
 first | refine op_y (y_pickt rfl rfl) rfl ?_ | refine op_y (y_pickf rfl rfl) rfl ?_ | refine op_y (y_pick rfl rfl rfl) rfl ?_
 refine op_y (y_move rfl) rfl ?_
 first
  | refine op_s1 rfl rfl ⟨rfl, rfl⟩ ?_
  | refine op_s2 rfl rfl ⟨rfl, rfl⟩ ?_
  | (refine op_g rfl rfl ?_
     refine op_y (y_move rfl) rfl ?_)
 first
  | refine op_s1 rfl rfl ⟨rfl, rfl⟩ ?_
  | refine op_s2 rfl rfl ⟨rfl, rfl⟩ ?_
  | (refine op_g rfl rfl ?_
     first | refine op_y (y_nil rfl) rfl ?_ | refine op_y (y_nili rfl) rfl ?_ | refine op_y (y_nilf rfl) rfl ?_)
 first
  | refine op_s1 rfl rfl ⟨rfl, rfl⟩ ?_
  | refine op_s2 rfl rfl ⟨rfl, rfl⟩ ?_
  | (refine op_g rfl rfl ?_
     first | refine op_y (y_fld0 Pool.fo_409_0 rfl) rfl ?_ | refine op_y (y_flda Pool.fo_409_0 rfl) rfl ?_)
 first
  | refine op_s1 rfl rfl ⟨rfl, rfl⟩ ?_
  | refine op_s2 rfl rfl ⟨rfl, rfl⟩ ?_
  | (refine op_g rfl rfl ?_
     apply op_ld Pool.sc_407 rfl rfl
     ·exact rm
     ·rfl)
 first
  | refine op_s1 rfl rfl ⟨rfl, rfl⟩ ?_
  | refine op_s2 rfl rfl ⟨rfl, rfl⟩ ?_
  | (refine op_g rfl rfl ?_
     refine op_y (y_move rfl) rfl ?_)
 first
  | refine op_s1 rfl rfl ⟨rfl, rfl⟩ ?_
  | refine op_s2 rfl rfl ⟨rfl, rfl⟩ ?_
  | (refine op_g rfl rfl ?_
     first | refine op_y (y_ix0 Pool.sl_407 rfl rfl rfl (by omega)) rfl ?_ | refine op_y (y_ix0 Pool.sl_407 rfl rfl (Int.toNat_of_nonneg (by omega)).symm (by omega)) rfl ?_ | refine op_y (y_ix Pool.sl_407 rfl rfl rfl (by omega)) rfl ?_ | refine op_y (y_ix Pool.sl_407 rfl rfl (Int.toNat_of_nonneg (by omega)).symm (by omega)) rfl ?_ | refine op_y (y_ixa Pool.sl_407 rfl rfl rfl (by omega)) rfl ?_ | refine op_y (y_ixa Pool.sl_407 rfl rfl (Int.toNat_of_nonneg (by omega)).symm (by omega)) rfl ?_)
 first
  | refine op_s1 rfl rfl ⟨rfl, rfl⟩ ?_
  | refine op_s2 rfl rfl ⟨rfl, rfl⟩ ?_
  | (refine op_g rfl rfl ?_
     first | refine op_y (y_fld Pool.fo_471_2 rfl) rfl ?_ | refine op_y (y_flda Pool.fo_471_2 rfl) rfl ?_)
 refine op_g rfl rfl ?_
 apply op_ld Pool.sc_4 rfl rfl
 ·exact rm
 ·exact flat_get Pc.cs6 (j := 4) r he (by decide) rfl
 first | refine op_y (y_pickt rfl rfl) rfl ?_ | refine op_y (y_pickf rfl rfl) rfl ?_ | refine op_y (y_pick rfl rfl rfl) rfl ?_
 refine op_y (y_assign rfl) rfl ?_
 refine op_nil ?_
 refine ent_then ?_
 refine cd_ret ?_
 refine ent_ret1 rfl rfl ⟨_, ⟨rfl, rfl⟩, fun w h => poolC_shut1 hl h⟩

theorem pHead_ct (c : Cx) (p room : Nat) (m : PM) (q : Nat) (e : Eh) (he : m.ends[q]? = some e) (hh : e.head = -1 ∨ ∃ k : Nat, e.head = k ∧ k < 2147483648) : Ct Tryz.prog 289 #[.pointer (some ⟨p, 0, none⟩), .int .i64 q] c [poolC p room m]
 fun v L => v = .tuple #[.int .i64 (if e.head = -1 then 0 else e.head), .bool (!decide (e.head = -1))] ∧ L = [poolC p room m] := by
 have hq : q < m.ends.length := (List.getElem?_eq_some_iff.1 he).1
 refine ct_fn (args := [.pointer (some ⟨p, 0, none⟩), .int .i64 q]) [(0, .pointer (some ⟨p, 0, none⟩)), (1, .int .i64 q)] Tryz.func289 rfl Tryz.ntmps289 rfl ⟨rfl, rfl, trivial⟩ ?_
 refine cd_seq ?_
 refine cd_region [0, 0] ?_
 refine op_y (y_assign rfl) rfl ?_
 refine op_y (y_assign rfl) rfl ?_
 refine op_nil ?_
 refine ent_then ?_
 refine cd_seq ?_
 refine cd_seq ?_
 refine cd_region [0, 0, 2, 0, 0, 0, 0, 0, 1, 0, 0, 0, 1, 0, 0] ?_
 refine op_y (y_move rfl) rfl ?_
 refine op_y (y_move rfl) rfl ?_
 apply op_c Pool.ca_301 rfl rfl (fun e he_ => pHas_ct e p room m q hq)
 ·exact sx
 rintro _ _ ⟨rfl, rfl⟩ G_ hG_
 simp only [zn] at hG_; subst hG_
 refine op_open poolC_open ?_
 rintro ⟨A, cap, b2⟩ -
 simp only []
 rcases hh with hh | ⟨k, hk, hk2⟩
 ·simp only [hh]
  skip
  first | refine op_y (y_not (b := true) (r := false) rfl rfl) rfl ?_ | refine op_y (y_not (b := false) (r := true) rfl rfl) rfl ?_ | refine op_y (y_not rfl rfl) rfl ?_
  refine op_y (y_move rfl) rfl ?_
  first
   | refine op_s1 rfl rfl ⟨rfl, rfl⟩ ?_
   | refine op_s2 rfl rfl ⟨rfl, rfl⟩ ?_
   | (refine op_g rfl rfl ?_
      refine op_y (y_move rfl) rfl ?_)
  first
   | refine op_s1 rfl rfl ⟨rfl, rfl⟩ ?_
   | refine op_s2 rfl rfl ⟨rfl, rfl⟩ ?_
   | (refine op_g rfl rfl ?_
      first | refine op_y (y_nil rfl) rfl ?_ | refine op_y (y_nili rfl) rfl ?_ | refine op_y (y_nilf rfl) rfl ?_)
  first
   | refine op_s1 rfl rfl ⟨rfl, rfl⟩ ?_
   | refine op_s2 rfl rfl ⟨rfl, rfl⟩ ?_
   | (refine op_g rfl rfl ?_
      first | refine op_y (y_fld Pool.fo_409_1 rfl) rfl ?_ | refine op_y (y_flda Pool.fo_409_1 rfl) rfl ?_)
  first
   | refine op_s1 rfl rfl ⟨rfl, rfl⟩ ?_
   | refine op_s2 rfl rfl ⟨rfl, rfl⟩ ?_
   | (refine op_g rfl rfl ?_
      apply op_ld Pool.sc_406 rfl rfl
      ·exact rm
      ·rfl)
  first
   | refine op_s1 rfl rfl ⟨rfl, rfl⟩ ?_
   | refine op_s2 rfl rfl ⟨rfl, rfl⟩ ?_
   | (refine op_g rfl rfl ?_
      refine op_y (y_move rfl) rfl ?_)
  first
   | refine op_s1 rfl rfl ⟨rfl, rfl⟩ ?_
   | refine op_s2 rfl rfl ⟨rfl, rfl⟩ ?_
   | (refine op_g rfl rfl ?_
      first | refine op_y (y_ix0 Pool.sl_406 rfl rfl rfl (by omega)) rfl ?_ | refine op_y (y_ix0 Pool.sl_406 rfl rfl (Int.toNat_of_nonneg (by omega)).symm (by omega)) rfl ?_ | refine op_y (y_ix Pool.sl_406 rfl rfl rfl (by omega)) rfl ?_ | refine op_y (y_ix Pool.sl_406 rfl rfl (Int.toNat_of_nonneg (by omega)).symm (by omega)) rfl ?_ | refine op_y (y_ixa Pool.sl_406 rfl rfl rfl (by omega)) rfl ?_ | refine op_y (y_ixa Pool.sl_406 rfl rfl (Int.toNat_of_nonneg (by omega)).symm (by omega)) rfl ?_)
  first
   | refine op_s1 rfl rfl ⟨rfl, rfl⟩ ?_
   | refine op_s2 rfl rfl ⟨rfl, rfl⟩ ?_
   | (refine op_g rfl rfl ?_
      first | refine op_y (y_fld0 Pool.fo_411_0 rfl) rfl ?_ | refine op_y (y_flda Pool.fo_411_0 rfl) rfl ?_)
  refine op_g rfl rfl ?_
  apply op_ld Pool.sc_21 rfl rfl
  ·exact rm
  ·exact flat_get Eh.cs2 (j := 0) [] he (by decide) rfl
  first
   | refine op_s1 rfl rfl ⟨rfl, rfl⟩ ?_
   | refine op_s2 rfl rfl ⟨rfl, rfl⟩ ?_
   | (refine op_g rfl rfl ?_
      first | refine op_y (y_eq rfl rfl (eqT (by omega))) rfl ?_ | refine op_y (y_eq rfl rfl (eqF (by omega))) rfl ?_ | refine op_y (y_eq rfl rfl rfl) rfl ?_)
  first | refine op_y (y_pickt rfl rfl) rfl ?_ | refine op_y (y_pickf rfl rfl) rfl ?_ | refine op_y (y_pick rfl rfl rfl) rfl ?_
  refine op_nil ?_
  refine ent_then ?_
  refine cd_ift rfl ?_
  refine cd_seq ?_
  refine cd_region [0, 0] ?_
  refine op_y (y_assign rfl) rfl ?_
  refine op_y (y_assign rfl) rfl ?_
  refine op_nil ?_
  refine ent_then ?_
  refine cd_ret ?_
  refine ent_thn_ret ?_
  refine ent_ret2 rfl rfl rfl ⟨_, ⟨rfl, rfl⟩, fun w h => poolC_shut h⟩
 ·skip
  first | refine op_y (y_not (b := true) (r := false) rfl rfl) rfl ?_ | refine op_y (y_not (b := false) (r := true) rfl rfl) rfl ?_ | refine op_y (y_not rfl rfl) rfl ?_
  refine op_y (y_move rfl) rfl ?_
  first
   | refine op_s1 rfl rfl ⟨rfl, rfl⟩ ?_
   | refine op_s2 rfl rfl ⟨rfl, rfl⟩ ?_
   | (refine op_g rfl rfl ?_
      refine op_y (y_move rfl) rfl ?_)
  first
   | refine op_s1 rfl rfl ⟨rfl, rfl⟩ ?_
   | refine op_s2 rfl rfl ⟨rfl, rfl⟩ ?_
   | (refine op_g rfl rfl ?_
      first | refine op_y (y_nil rfl) rfl ?_ | refine op_y (y_nili rfl) rfl ?_ | refine op_y (y_nilf rfl) rfl ?_)
  first
   | refine op_s1 rfl rfl ⟨rfl, rfl⟩ ?_
   | refine op_s2 rfl rfl ⟨rfl, rfl⟩ ?_
   | (refine op_g rfl rfl ?_
      first | refine op_y (y_fld Pool.fo_409_1 rfl) rfl ?_ | refine op_y (y_flda Pool.fo_409_1 rfl) rfl ?_)
  first
   | refine op_s1 rfl rfl ⟨rfl, rfl⟩ ?_
   | refine op_s2 rfl rfl ⟨rfl, rfl⟩ ?_
   | (refine op_g rfl rfl ?_
      apply op_ld Pool.sc_406 rfl rfl
      ·exact rm
      ·rfl)
  first
   | refine op_s1 rfl rfl ⟨rfl, rfl⟩ ?_
   | refine op_s2 rfl rfl ⟨rfl, rfl⟩ ?_
   | (refine op_g rfl rfl ?_
      refine op_y (y_move rfl) rfl ?_)
  first
   | refine op_s1 rfl rfl ⟨rfl, rfl⟩ ?_
   | refine op_s2 rfl rfl ⟨rfl, rfl⟩ ?_
   | (refine op_g rfl rfl ?_
      first | refine op_y (y_ix0 Pool.sl_406 rfl rfl rfl (by omega)) rfl ?_ | refine op_y (y_ix0 Pool.sl_406 rfl rfl (Int.toNat_of_nonneg (by omega)).symm (by omega)) rfl ?_ | refine op_y (y_ix Pool.sl_406 rfl rfl rfl (by omega)) rfl ?_ | refine op_y (y_ix Pool.sl_406 rfl rfl (Int.toNat_of_nonneg (by omega)).symm (by omega)) rfl ?_ | refine op_y (y_ixa Pool.sl_406 rfl rfl rfl (by omega)) rfl ?_ | refine op_y (y_ixa Pool.sl_406 rfl rfl (Int.toNat_of_nonneg (by omega)).symm (by omega)) rfl ?_)
  first
   | refine op_s1 rfl rfl ⟨rfl, rfl⟩ ?_
   | refine op_s2 rfl rfl ⟨rfl, rfl⟩ ?_
   | (refine op_g rfl rfl ?_
      first | refine op_y (y_fld0 Pool.fo_411_0 rfl) rfl ?_ | refine op_y (y_flda Pool.fo_411_0 rfl) rfl ?_)
  refine op_g rfl rfl ?_
  apply op_ld Pool.sc_21 rfl rfl
  ·exact rm
  ·exact flat_get Eh.cs2 (j := 0) [] he (by decide) rfl
  first
   | refine op_s1 rfl rfl ⟨rfl, rfl⟩ ?_
   | refine op_s2 rfl rfl ⟨rfl, rfl⟩ ?_
   | (refine op_g rfl rfl ?_
      first | refine op_y (y_eq rfl rfl (eqT (by omega))) rfl ?_ | refine op_y (y_eq rfl rfl (eqF (by omega))) rfl ?_ | refine op_y (y_eq rfl rfl rfl) rfl ?_)
  first | refine op_y (y_pickt rfl rfl) rfl ?_ | refine op_y (y_pickf rfl rfl) rfl ?_ | refine op_y (y_pick rfl rfl rfl) rfl ?_
  refine op_nil ?_
  refine ent_then ?_
  refine cd_iff rfl ?_
  refine cd_skip ?_
  refine ent_then ?_
  refine cd_seq ?_
  refine cd_region [0, 0, 0, 1, 0, 0, 0, 1, 0, 0, 0] ?_
  refine op_y (y_move rfl) rfl ?_
  first | refine op_y (y_nil rfl) rfl ?_ | refine op_y (y_nili rfl) rfl ?_ | refine op_y (y_nilf rfl) rfl ?_
  first | refine op_y (y_fld Pool.fo_409_1 rfl) rfl ?_ | refine op_y (y_flda Pool.fo_409_1 rfl) rfl ?_
  apply op_ld Pool.sc_406 rfl rfl
  ·exact rm
  ·rfl
  refine op_y (y_move rfl) rfl ?_
  first | refine op_y (y_ix0 Pool.sl_406 rfl rfl rfl (by omega)) rfl ?_ | refine op_y (y_ix0 Pool.sl_406 rfl rfl (Int.toNat_of_nonneg (by omega)).symm (by omega)) rfl ?_ | refine op_y (y_ix Pool.sl_406 rfl rfl rfl (by omega)) rfl ?_ | refine op_y (y_ix Pool.sl_406 rfl rfl (Int.toNat_of_nonneg (by omega)).symm (by omega)) rfl ?_ | refine op_y (y_ixa Pool.sl_406 rfl rfl rfl (by omega)) rfl ?_ | refine op_y (y_ixa Pool.sl_406 rfl rfl (Int.toNat_of_nonneg (by omega)).symm (by omega)) rfl ?_
  first | refine op_y (y_fld0 Pool.fo_411_0 rfl) rfl ?_ | refine op_y (y_flda Pool.fo_411_0 rfl) rfl ?_
  apply op_ld Pool.sc_21 rfl rfl
  ·exact rm
  ·exact flat_get Eh.cs2 (j := 0) [] he (by decide) rfl
  first | refine op_y (y_conv Pool.un_21 Pool.un_3 rfl (wi64 (by omega) (by omega))) rfl ?_ | refine op_y (y_conv Pool.un_21 Pool.un_3 rfl rfl) rfl ?_
  refine op_y (y_assign rfl) rfl ?_
  refine op_y (y_assign rfl) rfl ?_
  refine op_nil ?_
  refine ent_then ?_
  refine cd_ret ?_
  refine ent_ret2 rfl rfl rfl ⟨_, ⟨by rw [hk]; simp, rfl⟩, fun w h => poolC_shut h⟩

theorem pGet_ct (c : Cx) (p room : Nat) (m : PM) (i : Nat) (e : Pc) (he : m.cells[i]? = some e) (ht : e.taken = true) : Ct Tryz.prog 291 #[.pointer (some ⟨p, 0, none⟩), .int .i64 i] c [poolC p room m]
 fun v L => v = .tuple #[.agg (Pk.cs e.x).toArray, .bool true] ∧ L = [poolC p room m] := by
 have hi : i < m.cells.length := (List.getElem?_eq_some_iff.1 he).1
 refine ct_fn (args := [.pointer (some ⟨p, 0, none⟩), .int .i64 i]) [(0, .pointer (some ⟨p, 0, none⟩)), (1, .int .i64 i)] Tryz.func291 rfl Tryz.ntmps291 rfl ⟨rfl, rfl, trivial⟩ ?_
 refine cd_seq ?_
 refine cd_region [2, 0] ?_
 refine op_alloc Pool.ze_62 rfl fun b4 => ?_
 refine op_y (y_assign rfl) rfl ?_
 refine op_nil ?_
 refine ent_then ?_
 refine cd_seq ?_
 refine cd_region [2] ?_
 refine op_alloc Pool.ze_62 rfl fun b6 => ?_
 refine op_nil ?_
 refine ent_then ?_
 refine cd_seq ?_
 refine cd_seq ?_
 refine cd_region [0, 0, 2, 0] ?_
 refine op_y (y_move rfl) rfl ?_
 refine op_y (y_move rfl) rfl ?_
 apply op_c Pool.ca_302 rfl rfl (fun e he_ => pTaken_ct e p room m i _ he)
 ·exact sx
 rintro _ _ ⟨rfl, rfl⟩ G_ hG_
 simp only [zn] at hG_; subst hG_
 rw [ht]
 first | refine op_y (y_not (b := true) (r := false) rfl rfl) rfl ?_ | refine op_y (y_not (b := false) (r := true) rfl rfl) rfl ?_ | refine op_y (y_not rfl rfl) rfl ?_
 refine op_nil ?_
 refine ent_then ?_
 refine cd_iff rfl ?_
 apply cd_openR (A := poolC p room m)
 ·exact rm
 ·exact poolC_open1 he
 rintro ⟨b, r, cap, b2⟩ hl
 simp only [] at hl ⊢
 refine cd_skip ?_
 refine ent_then ?_
 refine cd_seq ?_
 refine cd_region [0, 0, 0, 1, 0, 0, 0, 1, 2, 0] ?_
 refine op_y (y_move rfl) rfl ?_
 first | refine op_y (y_nil rfl) rfl ?_ | refine op_y (y_nili rfl) rfl ?_ | refine op_y (y_nilf rfl) rfl ?_
 first | refine op_y (y_fld0 Pool.fo_409_0 rfl) rfl ?_ | refine op_y (y_flda Pool.fo_409_0 rfl) rfl ?_
 apply op_ld Pool.sc_407 rfl rfl
 ·exact rm
 ·rfl
 refine op_y (y_move rfl) rfl ?_
 first | refine op_y (y_ix0 Pool.sl_407 rfl rfl rfl (by omega)) rfl ?_ | refine op_y (y_ix0 Pool.sl_407 rfl rfl (Int.toNat_of_nonneg (by omega)).symm (by omega)) rfl ?_ | refine op_y (y_ix Pool.sl_407 rfl rfl rfl (by omega)) rfl ?_ | refine op_y (y_ix Pool.sl_407 rfl rfl (Int.toNat_of_nonneg (by omega)).symm (by omega)) rfl ?_ | refine op_y (y_ixa Pool.sl_407 rfl rfl rfl (by omega)) rfl ?_ | refine op_y (y_ixa Pool.sl_407 rfl rfl (Int.toNat_of_nonneg (by omega)).symm (by omega)) rfl ?_
 first | refine op_y (y_fld0 Pool.fo_471_0 rfl) rfl ?_ | refine op_y (y_flda Pool.fo_471_0 rfl) rfl ?_
 apply op_lda Pool.ag_62 rfl rfl
 ·exact rm
 ·exact (show _ = Pk.cs e.x from flat_take' Pc.cs6 (o := 0) (k := 3) r he (by decide))
 ·first | rfl | simp [*]
 apply op_sta Pool.sz_62 rfl rfl rfl rfl
 ·exact rm
 ·simp
 ·(first | ((try simp only [zz, splice, Nat.reduceAdd, Nat.zero_mul, Pk.cs, Pc.cs, Eh.cs]) <;> rfl) | rfl)
 refine op_y (y_assign rfl) rfl ?_
 refine op_nil ?_
 refine ent_then ?_
 refine cd_ret ?_
 refine ent_rets (rs := [_, _]) (vs := [.agg (Pk.cs e.x).toArray, .bool true]) (.inl rfl) rfl ⟨⟨_, rfl, .inr ⟨_, 3, rfl, rfl, rds_all (by exact rm), rfl⟩⟩, rfl, trivial⟩ ⟨_, ⟨rfl, rfl⟩, fun w h => ?_⟩
 refine poolC_shut1 hl (b := b) (b2 := b2) ?_
 apply Sat.only (h := h)
 exact sx
end Go.Proofs.YtfkadaodnaaceaaGreatDoor
/- The pool's functions that turn it. -/
namespace Go.Proofs.YtfkadaodnaaceaaGreatDoor
open Go Go.SL
theorem Pool2.ag_62 : aggK Tryz.prog 62 = some 3 := by kernel_rfl
theorem Pool2.ca_289 : callable Tryz.prog 289 = true := by kernel_rfl
theorem Pool2.ca_301 : callable Tryz.prog 301 = true := by kernel_rfl
theorem Pool2.ca_302 : callable Tryz.prog 302 = true := by kernel_rfl
theorem Pool2.fo_409_0 : fieldOff Tryz.prog 409 0 = some 0 := by kernel_rfl
theorem Pool2.fo_409_1 : fieldOff Tryz.prog 409 1 = some 1 := by kernel_rfl
theorem Pool2.fo_409_2 : fieldOff Tryz.prog 409 2 = some 2 := by kernel_rfl
theorem Pool2.fo_409_3 : fieldOff Tryz.prog 409 3 = some 3 := by kernel_rfl
theorem Pool2.fo_409_4 : fieldOff Tryz.prog 409 4 = some 4 := by kernel_rfl
theorem Pool2.fo_411_0 : fieldOff Tryz.prog 411 0 = some 0 := by kernel_rfl
theorem Pool2.fo_411_1 : fieldOff Tryz.prog 411 1 = some 1 := by kernel_rfl
theorem Pool2.fo_471_0 : fieldOff Tryz.prog 471 0 = some 0 := by kernel_rfl
theorem Pool2.fo_471_1 : fieldOff Tryz.prog 471 1 = some 3 := by kernel_rfl
theorem Pool2.fo_471_3 : fieldOff Tryz.prog 471 3 = some 5 := by kernel_rfl
theorem Pool2.pl_471 : placesK Tryz.prog 471 = some [(0, 3), (3, 1), (4, 1), (5, 1)] := by kernel_rfl
theorem Pool2.sc_3 : scalarT Tryz.prog 3 = true := by kernel_rfl
theorem Pool2.sc_4 : scalarT Tryz.prog 4 = true := by kernel_rfl
theorem Pool2.sc_21 : scalarT Tryz.prog 21 = true := by kernel_rfl
theorem Pool2.sc_406 : scalarT Tryz.prog 406 = true := by kernel_rfl
theorem Pool2.sc_407 : scalarT Tryz.prog 407 = true := by kernel_rfl
theorem Pool2.sl_406 : sliceK Tryz.prog 406 = some (411, 2, 8) := by kernel_rfl
theorem Pool2.sl_407 : sliceK Tryz.prog 407 = some (471, 6, 24) := by kernel_rfl
theorem Pool2.sz_3 : sizeK Tryz.prog 3 = some 1 := by kernel_rfl
theorem Pool2.sz_4 : sizeK Tryz.prog 4 = some 1 := by kernel_rfl
theorem Pool2.sz_21 : sizeK Tryz.prog 21 = some 1 := by kernel_rfl
theorem Pool2.sz_62 : sizeK Tryz.prog 62 = some 3 := by kernel_rfl
theorem Pool2.sz_407 : sizeK Tryz.prog 407 = some 1 := by kernel_rfl
theorem Pool2.sz_471 : sizeK Tryz.prog 471 = some 6 := by kernel_rfl
theorem Pool2.un_3 : Tryz.prog.underlying 3 = some (.int .i64) := by kernel_rfl
theorem Pool2.un_21 : Tryz.prog.underlying 21 = some (.int .i32) := by kernel_rfl
theorem Pool2.un_357 : Tryz.prog.underlying 357 = some (.pointer 409) := by kernel_rfl
theorem Pool2.un_407 : Tryz.prog.underlying 407 = some (.slice 471) := by kernel_rfl
theorem Pool2.ze_62 : zeroC Tryz.prog 62 = some [.int .u32 0, .int .u32 0, .int .u64 0] := by kernel_rfl
theorem Pool2.ze_471 : zeroC Tryz.prog 471 = some [.int .u32 0, .int .u32 0, .int .u64 0, .int .i32 0, .bool false, .bool false] := by kernel_rfl
set_option maxRecDepth 100000
set_option maxHeartbeats 1000000
theorem set_get {α : Type} {l : List α} {i : Nat} {e x : α} (h : l[i]? = some e) : (l.set i x)[i]? = some x := by
 have hi : i < l.length := (List.getElem?_eq_some_iff.1 h).1
 simp [hi]
theorem lt_of_get {α : Type} {l : List α} {i : Nat} {e : α} (h : l[i]? = some e) : i < l.length := (List.getElem?_eq_some_iff.1 h).1

theorem pTakeNew_ct (c : Cx) (p room : Nat) (m : PM) (x : Pk) (hf : m.free = -1) (hn : m.n < room) (hr : room ≤ 100000) (hl : m.cells.length ≤ 100000) : Ct Tryz.prog 304 #[.pointer (some ⟨p, 0, none⟩), .agg (Pk.cs x).toArray] c [poolC p room m]
 fun v L => v = .tuple #[.int .i64 m.cells.length, .bool true] ∧ L = [poolC p room { m with cells := m.cells ++ [⟨x, -1, true, false⟩], n := m.n + 1 }] := by
 refine ct_fn (args := [.pointer (some ⟨p, 0, none⟩), .agg (Pk.cs x).toArray]) [(0, .pointer (some ⟨p, 0, none⟩)), (1, .agg (Pk.cs x).toArray)] Tryz.func304 rfl Tryz.ntmps304 rfl ⟨rfl, rfl, trivial⟩ ?_
 refine cd_open poolC_open ?_
 rintro ⟨A, cap, b2⟩ -
 simp only [hf]
 refine cd_seq ?_
 refine cd_region [2, 0, 0] ?_
 refine op_boxa rfl rfl fun b3 => ?_
 refine op_y (y_assign rfl) rfl ?_
 refine op_y (y_assign rfl) rfl ?_
 refine op_nil ?_
 refine ent_then ?_
 refine cd_seq ?_
 refine cd_seq ?_
 refine cd_draw ([]) [0, 1, 2, 3, 4, 5, 6, 7, 8, 9, 10, 11, 12] [0, 0, 0, 0, 0, 0, 1, 0, 0, 0, 1, 0, 0] mixed_ (by kernel_rfl) ?_
 refine op_y (y_move rfl) rfl ?_
 first | refine op_y (y_peq (r := false) Pool2.un_357 rfl rfl) rfl ?_ | refine op_y (y_peq (r := true) Pool2.un_357 rfl rfl) rfl ?_ | refine op_y (y_peq Pool2.un_357 rfl rfl) rfl ?_
 refine op_y (y_move rfl) rfl ?_
 first
  | refine op_s1 rfl rfl ⟨rfl, rfl⟩ ?_
  | refine op_s2 rfl rfl ⟨rfl, rfl⟩ ?_
  | (refine op_g rfl rfl ?_
     refine op_y (y_move rfl) rfl ?_)
 first
  | refine op_s1 rfl rfl ⟨rfl, rfl⟩ ?_
  | refine op_s2 rfl rfl ⟨rfl, rfl⟩ ?_
  | (refine op_g rfl rfl ?_
     first | refine op_y (y_nil rfl) rfl ?_ | refine op_y (y_nili rfl) rfl ?_ | refine op_y (y_nilf rfl) rfl ?_)
 first
  | refine op_s1 rfl rfl ⟨rfl, rfl⟩ ?_
  | refine op_s2 rfl rfl ⟨rfl, rfl⟩ ?_
  | (refine op_g rfl rfl ?_
     first | refine op_y (y_fld Pool2.fo_409_4 rfl) rfl ?_ | refine op_y (y_flda Pool2.fo_409_4 rfl) rfl ?_)
 first
  | refine op_s1 rfl rfl ⟨rfl, rfl⟩ ?_
  | refine op_s2 rfl rfl ⟨rfl, rfl⟩ ?_
  | (refine op_g rfl rfl ?_
     apply op_ld Pool2.sc_3 rfl rfl
     ·exact rm
     ·rfl)
 first
  | refine op_s1 rfl rfl ⟨rfl, rfl⟩ ?_
  | refine op_s2 rfl rfl ⟨rfl, rfl⟩ ?_
  | (refine op_g rfl rfl ?_
     refine op_y (y_move rfl) rfl ?_)
 first
  | refine op_s1 rfl rfl ⟨rfl, rfl⟩ ?_
  | refine op_s2 rfl rfl ⟨rfl, rfl⟩ ?_
  | (refine op_g rfl rfl ?_
     first | refine op_y (y_nil rfl) rfl ?_ | refine op_y (y_nili rfl) rfl ?_ | refine op_y (y_nilf rfl) rfl ?_)
 first
  | refine op_s1 rfl rfl ⟨rfl, rfl⟩ ?_
  | refine op_s2 rfl rfl ⟨rfl, rfl⟩ ?_
  | (refine op_g rfl rfl ?_
     first | refine op_y (y_fld Pool2.fo_409_2 rfl) rfl ?_ | refine op_y (y_flda Pool2.fo_409_2 rfl) rfl ?_)
 first
  | refine op_s1 rfl rfl ⟨rfl, rfl⟩ ?_
  | refine op_s2 rfl rfl ⟨rfl, rfl⟩ ?_
  | (refine op_g rfl rfl ?_
     apply op_ld Pool2.sc_3 rfl rfl
     ·exact rm
     ·rfl)
 first
  | refine op_s1 rfl rfl ⟨rfl, rfl⟩ ?_
  | refine op_s2 rfl rfl ⟨rfl, rfl⟩ ?_
  | (refine op_g rfl rfl ?_
     first | refine op_y (y_ge rfl rfl (decide_eq_true (by omega))) rfl ?_ | refine op_y (y_ge rfl rfl (decide_eq_false (by omega))) rfl ?_ | refine op_y (y_ge rfl rfl rfl) rfl ?_)
 first | refine op_y (y_pickt rfl rfl) rfl ?_ | refine op_y (y_pickf rfl rfl) rfl ?_ | refine op_y (y_pick rfl rfl rfl) rfl ?_
 refine op_nil ?_
 refine ent_then ?_
 refine cd_iff rfl ?_
 refine cd_skip ?_
 refine ent_then ?_
 refine cd_seq ?_
 refine cd_region [0, 0, 0, 1, 0] ?_
 refine op_y (y_move rfl) rfl ?_
 first | refine op_y (y_nil rfl) rfl ?_ | refine op_y (y_nili rfl) rfl ?_ | refine op_y (y_nilf rfl) rfl ?_
 first | refine op_y (y_fld Pool2.fo_409_3 rfl) rfl ?_ | refine op_y (y_flda Pool2.fo_409_3 rfl) rfl ?_
 apply op_ld Pool2.sc_21 rfl rfl
 ·exact rm
 ·rfl
 refine op_y (y_assign rfl) rfl ?_
 refine op_nil ?_
 refine ent_then ?_
 refine cd_seq ?_
 refine cd_seq ?_
 refine cd_region [0, 0] ?_
 refine op_y (y_move rfl) rfl ?_
 first | refine op_y (y_eq rfl rfl (eqT (by omega))) rfl ?_ | refine op_y (y_eq rfl rfl (eqF (by omega))) rfl ?_ | refine op_y (y_eq rfl rfl rfl) rfl ?_
 refine op_nil ?_
 refine ent_then ?_
 refine cd_ift rfl ?_
 refine cd_seq ?_
 refine cd_region [0, 0, 0, 1, 0, 0, 0] ?_
 refine op_y (y_move rfl) rfl ?_
 first | refine op_y (y_nil rfl) rfl ?_ | refine op_y (y_nili rfl) rfl ?_ | refine op_y (y_nilf rfl) rfl ?_
 first | refine op_y (y_fld0 Pool2.fo_409_0 rfl) rfl ?_ | refine op_y (y_flda Pool2.fo_409_0 rfl) rfl ?_
 apply op_ld Pool2.sc_407 rfl rfl
 ·exact rm
 ·rfl
 refine op_y (y_len Pool2.un_407 rfl) rfl ?_
 first | refine op_y (y_conv Pool2.un_3 Pool2.un_21 rfl (wi32 (by omega) (by omega))) rfl ?_ | refine op_y (y_conv Pool2.un_3 Pool2.un_21 rfl rfl) rfl ?_
 refine op_y (y_assign rfl) rfl ?_
 refine op_nil ?_
 refine ent_then ?_
 refine cd_region [0, 0, 0, 0, 1, 0, 2, 2, 0, 0, 2] ?_
 refine op_y (y_move rfl) rfl ?_
 refine op_y (y_move rfl) rfl ?_
 first | refine op_y (y_nil rfl) rfl ?_ | refine op_y (y_nili rfl) rfl ?_ | refine op_y (y_nilf rfl) rfl ?_
 first | refine op_y (y_fld0 Pool2.fo_409_0 rfl) rfl ?_ | refine op_y (y_flda Pool2.fo_409_0 rfl) rfl ?_
 apply op_ld Pool2.sc_407 rfl rfl
 ·exact rm
 ·rfl
 apply op_build Pool2.pl_471 Pool2.ze_471 rfl rfl
 ·(first | ((try simp [fillL, splice, Value.cells, Pk.cs, Pc.cs, Eh.cs]) <;> rfl) | rfl)
 apply op_bslice Pool2.sl_407 Pool2.ze_471 rfl rfl rfl rfl rfl
 ·(first | ((try simp [fillL, splice, Value.cells, Pk.cs, Pc.cs, Eh.cs]) <;> rfl) | rfl)
 intro b38
 apply op_append Pool2.sl_407 Pool2.ze_471 rfl rfl rfl (by decide) rfl
 ·exact rm
 ·(apply rds_all; exact rm)
 ·first | rfl | simp
 ·first | rfl | simp [ones]
 ·omega
 ·omega
 ·omega
 intro A39 c39
 first | refine op_y (y_nil rfl) rfl ?_ | refine op_y (y_nili rfl) rfl ?_ | refine op_y (y_nilf rfl) rfl ?_
 first | refine op_y (y_fld0 Pool2.fo_409_0 rfl) rfl ?_ | refine op_y (y_flda Pool2.fo_409_0 rfl) rfl ?_
 apply op_st1 Pool2.sz_407 rfl rfl rfl
 ·exact rm
 ·rfl
 ·(first | ((try simp only [zz, splice, Nat.reduceAdd, Nat.zero_mul, Pk.cs, Pc.cs, Eh.cs]) <;> rfl) | rfl)
 refine op_nil ?_
 refine ent_then ?_
 have ef : flat Pc.cs m.cells ++ [Value.int .u32 0, .int .u32 0, .int .u64 0, .int .i32 0, .bool false, .bool false] = flat Pc.cs (m.cells ++ [⟨⟨0, 0, 0⟩, 0, false, false⟩]) := by rw [flat_append]; rfl
 apply cd_own
 ·exact rm
 ·omega
 ·exact ef
 rintro b r rfl hb1 hb2
 have hk : m.cells.length < (m.cells ++ [(⟨⟨0, 0, 0⟩, 0, false, false⟩ : Pc)]).length := by simp
 refine cd_seq ?_
 refine cd_draw ([]) [0, 1, 2, 3, 4, 5, 6, 7, 8] [0, 0, 0, 1, 0, 1, 0, 0, 2] mixed_ (by kernel_rfl) ?_
 refine op_y (y_move rfl) rfl ?_
 first | refine op_y (y_nil rfl) rfl ?_ | refine op_y (y_nili rfl) rfl ?_ | refine op_y (y_nilf rfl) rfl ?_
 first | refine op_y (y_fld0 Pool2.fo_409_0 rfl) rfl ?_ | refine op_y (y_flda Pool2.fo_409_0 rfl) rfl ?_
 apply op_ld Pool2.sc_407 rfl rfl
 ·exact rm
 ·rfl
 refine op_y (y_move rfl) rfl ?_
 apply op_lda Pool2.ag_62 rfl rfl
 ·exact rm
 ·(first | ((try simp only [zz, splice, Nat.reduceAdd, Nat.zero_mul, Pk.cs, Pc.cs, Eh.cs]) <;> rfl) | rfl)
 ·rfl
 apply op_build Pool2.pl_471 Pool2.ze_471 rfl rfl
 ·(first | ((try simp [fillL, splice, Value.cells, Pk.cs, Pc.cs, Eh.cs]) <;> rfl) | rfl)
 first | refine op_y (y_ix0 (j := m.cells.length) Pool2.sl_407 rfl rfl (by omega) (by omega)) rfl ?_ | refine op_y (y_ix (j := m.cells.length) Pool2.sl_407 rfl rfl (by omega) (by omega)) rfl ?_ | refine op_y (y_ixa (j := m.cells.length) Pool2.sl_407 rfl rfl (by omega) (by omega)) rfl ?_
 apply op_sta Pool2.sz_471 rfl rfl rfl rfl
 ·exact rm
 ·exact flat_le Pc.cs6 r hk
 ·exact flat_splice Pc.cs6 (⟨x, -1, true, false⟩ : Pc) r hk
 refine op_nil ?_
 refine ent_then ?_
 refine cd_seq ?_
 refine cd_region [0, 0, 0, 1, 0, 0, 0, 2] ?_
 refine op_y (y_move rfl) rfl ?_
 first | refine op_y (y_nil rfl) rfl ?_ | refine op_y (y_nili rfl) rfl ?_ | refine op_y (y_nilf rfl) rfl ?_
 first | refine op_y (y_fld Pool2.fo_409_4 rfl) rfl ?_ | refine op_y (y_flda Pool2.fo_409_4 rfl) rfl ?_
 apply op_ld Pool2.sc_3 rfl rfl
 ·exact rm
 ·rfl
 first | refine op_y (y_add rfl rfl (wi64 (by omega) (by omega))) rfl ?_ | refine op_y (y_add rfl rfl rfl) rfl ?_
 first | refine op_y (y_nil rfl) rfl ?_ | refine op_y (y_nili rfl) rfl ?_ | refine op_y (y_nilf rfl) rfl ?_
 first | refine op_y (y_fld Pool2.fo_409_4 rfl) rfl ?_ | refine op_y (y_flda Pool2.fo_409_4 rfl) rfl ?_
 apply op_st1 Pool2.sz_3 rfl rfl rfl
 ·exact rm
 ·rfl
 ·(first | ((try simp only [zz, splice, Nat.reduceAdd, Nat.zero_mul, Pk.cs, Pc.cs, Eh.cs]) <;> rfl) | rfl)
 refine op_nil ?_
 refine ent_then ?_
 refine cd_seq ?_
 refine cd_region [0, 0, 0, 0] ?_
 refine op_y (y_move rfl) rfl ?_
 first | refine op_y (y_conv Pool2.un_21 Pool2.un_3 rfl (wi64 (by omega) (by omega))) rfl ?_ | refine op_y (y_conv Pool2.un_21 Pool2.un_3 rfl rfl) rfl ?_
 refine op_y (y_assign rfl) rfl ?_
 refine op_y (y_assign rfl) rfl ?_
 refine op_nil ?_
 refine ent_then ?_
 refine cd_ret ?_
 refine ent_ret2 rfl rfl rfl ⟨_, ⟨rfl, rfl⟩, fun w h => ?_⟩
 have es : (m.cells ++ [(⟨⟨0, 0, 0⟩, 0, false, false⟩ : Pc)]).set m.cells.length ⟨x, -1, true, false⟩ = m.cells ++ [⟨x, -1, true, false⟩] := by
  rw [List.set_append_right _ _ (Nat.le_refl _), Nat.sub_self]; rfl
 rw [es] at h
 refine poolC_shut1 (m := { cells := m.cells ++ [⟨x, -1, true, false⟩], ends := m.ends, free := -1, n := m.n + 1 }) (b := b) (b2 := b2) (r := r) (cap := c39) ?_ ?_
 ·rw [← hb2, List.length_append, List.length_append, flat_length Pc.cs6, flat_length Pc.cs6]; simp
 ·simp only [List.length_append, List.length_singleton]
  rw [show ((m.n + 1 : Nat) : Int) = (m.n : Int) + 1 from rfl]
  apply Sat.only (h := h)
  exact sx

theorem pTakeOld_ct (c : Cx) (p room : Nat) (m : PM) (x : Pk) (f : Nat) (e : Pc) (hf : m.free = f) (he : m.cells[f]? = some e) (hn : m.n < room) (hr : room ≤ 100000) (hl : m.cells.length ≤ 100000) : Ct Tryz.prog 304 #[.pointer (some ⟨p, 0, none⟩), .agg (Pk.cs x).toArray] c [poolC p room m]
 fun v L => v = .tuple #[.int .i64 f, .bool true] ∧ L = [poolC p room { m with cells := m.cells.set f ⟨x, -1, true, false⟩, free := e.next, n := m.n + 1 }] := by
 have hi := lt_of_get he
 refine ct_fn (args := [.pointer (some ⟨p, 0, none⟩), .agg (Pk.cs x).toArray]) [(0, .pointer (some ⟨p, 0, none⟩)), (1, .agg (Pk.cs x).toArray)] Tryz.func304 rfl Tryz.ntmps304 rfl ⟨rfl, rfl, trivial⟩ ?_
 refine cd_open (poolC_open1 he) ?_
 rintro ⟨b, r, cap, b2⟩ hb2
 simp only [hf] at hb2 ⊢
 refine cd_seq ?_
 refine cd_region [2, 0, 0] ?_
 refine op_boxa rfl rfl fun b3 => ?_
 refine op_y (y_assign rfl) rfl ?_
 refine op_y (y_assign rfl) rfl ?_
 refine op_nil ?_
 refine ent_then ?_
 refine cd_seq ?_
 refine cd_seq ?_
 refine cd_draw ([]) [0, 1, 2, 3, 4, 5, 6, 7, 8, 9, 10, 11, 12] [0, 0, 0, 0, 0, 0, 1, 0, 0, 0, 1, 0, 0] mixed_ (by kernel_rfl) ?_
 refine op_y (y_move rfl) rfl ?_
 first | refine op_y (y_peq (r := false) Pool2.un_357 rfl rfl) rfl ?_ | refine op_y (y_peq (r := true) Pool2.un_357 rfl rfl) rfl ?_ | refine op_y (y_peq Pool2.un_357 rfl rfl) rfl ?_
 refine op_y (y_move rfl) rfl ?_
 first
  | refine op_s1 rfl rfl ⟨rfl, rfl⟩ ?_
  | refine op_s2 rfl rfl ⟨rfl, rfl⟩ ?_
  | (refine op_g rfl rfl ?_
     refine op_y (y_move rfl) rfl ?_)
 first
  | refine op_s1 rfl rfl ⟨rfl, rfl⟩ ?_
  | refine op_s2 rfl rfl ⟨rfl, rfl⟩ ?_
  | (refine op_g rfl rfl ?_
     first | refine op_y (y_nil rfl) rfl ?_ | refine op_y (y_nili rfl) rfl ?_ | refine op_y (y_nilf rfl) rfl ?_)
 first
  | refine op_s1 rfl rfl ⟨rfl, rfl⟩ ?_
  | refine op_s2 rfl rfl ⟨rfl, rfl⟩ ?_
  | (refine op_g rfl rfl ?_
     first | refine op_y (y_fld Pool2.fo_409_4 rfl) rfl ?_ | refine op_y (y_flda Pool2.fo_409_4 rfl) rfl ?_)
 first
  | refine op_s1 rfl rfl ⟨rfl, rfl⟩ ?_
  | refine op_s2 rfl rfl ⟨rfl, rfl⟩ ?_
  | (refine op_g rfl rfl ?_
     apply op_ld Pool2.sc_3 rfl rfl
     ·exact rm
     ·rfl)
 first
  | refine op_s1 rfl rfl ⟨rfl, rfl⟩ ?_
  | refine op_s2 rfl rfl ⟨rfl, rfl⟩ ?_
  | (refine op_g rfl rfl ?_
     refine op_y (y_move rfl) rfl ?_)
 first
  | refine op_s1 rfl rfl ⟨rfl, rfl⟩ ?_
  | refine op_s2 rfl rfl ⟨rfl, rfl⟩ ?_
  | (refine op_g rfl rfl ?_
     first | refine op_y (y_nil rfl) rfl ?_ | refine op_y (y_nili rfl) rfl ?_ | refine op_y (y_nilf rfl) rfl ?_)
 first
  | refine op_s1 rfl rfl ⟨rfl, rfl⟩ ?_
  | refine op_s2 rfl rfl ⟨rfl, rfl⟩ ?_
  | (refine op_g rfl rfl ?_
     first | refine op_y (y_fld Pool2.fo_409_2 rfl) rfl ?_ | refine op_y (y_flda Pool2.fo_409_2 rfl) rfl ?_)
 first
  | refine op_s1 rfl rfl ⟨rfl, rfl⟩ ?_
  | refine op_s2 rfl rfl ⟨rfl, rfl⟩ ?_
  | (refine op_g rfl rfl ?_
     apply op_ld Pool2.sc_3 rfl rfl
     ·exact rm
     ·rfl)
 first
  | refine op_s1 rfl rfl ⟨rfl, rfl⟩ ?_
  | refine op_s2 rfl rfl ⟨rfl, rfl⟩ ?_
  | (refine op_g rfl rfl ?_
     first | refine op_y (y_ge rfl rfl (decide_eq_true (by omega))) rfl ?_ | refine op_y (y_ge rfl rfl (decide_eq_false (by omega))) rfl ?_ | refine op_y (y_ge rfl rfl rfl) rfl ?_)
 first | refine op_y (y_pickt rfl rfl) rfl ?_ | refine op_y (y_pickf rfl rfl) rfl ?_ | refine op_y (y_pick rfl rfl rfl) rfl ?_
 refine op_nil ?_
 refine ent_then ?_
 refine cd_iff rfl ?_
 refine cd_skip ?_
 refine ent_then ?_
 refine cd_seq ?_
 refine cd_region [0, 0, 0, 1, 0] ?_
 refine op_y (y_move rfl) rfl ?_
 first | refine op_y (y_nil rfl) rfl ?_ | refine op_y (y_nili rfl) rfl ?_ | refine op_y (y_nilf rfl) rfl ?_
 first | refine op_y (y_fld Pool2.fo_409_3 rfl) rfl ?_ | refine op_y (y_flda Pool2.fo_409_3 rfl) rfl ?_
 apply op_ld Pool2.sc_21 rfl rfl
 ·exact rm
 ·rfl
 refine op_y (y_assign rfl) rfl ?_
 refine op_nil ?_
 refine ent_then ?_
 refine cd_seq ?_
 refine cd_seq ?_
 refine cd_region [0, 0] ?_
 refine op_y (y_move rfl) rfl ?_
 first | refine op_y (y_eq rfl rfl (eqT (by omega))) rfl ?_ | refine op_y (y_eq rfl rfl (eqF (by omega))) rfl ?_ | refine op_y (y_eq rfl rfl rfl) rfl ?_
 refine op_nil ?_
 refine ent_then ?_
 refine cd_iff rfl ?_
 refine cd_region [0, 0, 0, 0, 1, 0, 0, 0, 1, 0, 0, 2] ?_
 refine op_y (y_move rfl) rfl ?_
 refine op_y (y_move rfl) rfl ?_
 first | refine op_y (y_nil rfl) rfl ?_ | refine op_y (y_nili rfl) rfl ?_ | refine op_y (y_nilf rfl) rfl ?_
 first | refine op_y (y_fld0 Pool2.fo_409_0 rfl) rfl ?_ | refine op_y (y_flda Pool2.fo_409_0 rfl) rfl ?_
 apply op_ld Pool2.sc_407 rfl rfl
 ·exact rm
 ·rfl
 refine op_y (y_move rfl) rfl ?_
 first | refine op_y (y_ix0 (j := f) Pool2.sl_407 rfl rfl (by omega) (by omega)) rfl ?_ | refine op_y (y_ix (j := f) Pool2.sl_407 rfl rfl (by omega) (by omega)) rfl ?_ | refine op_y (y_ixa (j := f) Pool2.sl_407 rfl rfl (by omega) (by omega)) rfl ?_
 first | refine op_y (y_fld Pool2.fo_471_1 rfl) rfl ?_ | refine op_y (y_flda Pool2.fo_471_1 rfl) rfl ?_
 apply op_ld Pool2.sc_21 rfl rfl
 ·exact rm
 ·exact flat_get Pc.cs6 (j := 3) r he (by decide) rfl
 first | refine op_y (y_nil rfl) rfl ?_ | refine op_y (y_nili rfl) rfl ?_ | refine op_y (y_nilf rfl) rfl ?_
 first | refine op_y (y_fld Pool2.fo_409_3 rfl) rfl ?_ | refine op_y (y_flda Pool2.fo_409_3 rfl) rfl ?_
 apply op_st1 Pool2.sz_21 rfl rfl rfl
 ·exact rm
 ·rfl
 ·(first | ((try simp only [zz, splice, Nat.reduceAdd, Nat.zero_mul, Pk.cs, Pc.cs, Eh.cs]) <;> rfl) | rfl)
 refine op_nil ?_
 refine ent_then ?_
 refine cd_seq ?_
 refine cd_draw ([]) [0, 1, 2, 3, 4, 5, 6, 7, 8] [0, 0, 0, 1, 0, 1, 0, 0, 2] mixed_ (by kernel_rfl) ?_
 refine op_y (y_move rfl) rfl ?_
 first | refine op_y (y_nil rfl) rfl ?_ | refine op_y (y_nili rfl) rfl ?_ | refine op_y (y_nilf rfl) rfl ?_
 first | refine op_y (y_fld0 Pool2.fo_409_0 rfl) rfl ?_ | refine op_y (y_flda Pool2.fo_409_0 rfl) rfl ?_
 apply op_ld Pool2.sc_407 rfl rfl
 ·exact rm
 ·rfl
 refine op_y (y_move rfl) rfl ?_
 apply op_lda Pool2.ag_62 rfl rfl
 ·exact rm
 ·(first | ((try simp only [zz, splice, Nat.reduceAdd, Nat.zero_mul, Pk.cs, Pc.cs, Eh.cs]) <;> rfl) | rfl)
 ·rfl
 apply op_build Pool2.pl_471 Pool2.ze_471 rfl rfl
 ·(first | ((try simp [fillL, splice, Value.cells, Pk.cs, Pc.cs, Eh.cs]) <;> rfl) | rfl)
 first | refine op_y (y_ix0 (j := f) Pool2.sl_407 rfl rfl (by omega) (by omega)) rfl ?_ | refine op_y (y_ix (j := f) Pool2.sl_407 rfl rfl (by omega) (by omega)) rfl ?_ | refine op_y (y_ixa (j := f) Pool2.sl_407 rfl rfl (by omega) (by omega)) rfl ?_
 apply op_sta Pool2.sz_471 rfl rfl rfl rfl
 ·exact rm
 ·exact flat_le Pc.cs6 r hi
 ·exact flat_splice Pc.cs6 (⟨x, -1, true, false⟩ : Pc) r hi
 refine op_nil ?_
 refine ent_then ?_
 refine cd_seq ?_
 refine cd_region [0, 0, 0, 1, 0, 0, 0, 2] ?_
 refine op_y (y_move rfl) rfl ?_
 first | refine op_y (y_nil rfl) rfl ?_ | refine op_y (y_nili rfl) rfl ?_ | refine op_y (y_nilf rfl) rfl ?_
 first | refine op_y (y_fld Pool2.fo_409_4 rfl) rfl ?_ | refine op_y (y_flda Pool2.fo_409_4 rfl) rfl ?_
 apply op_ld Pool2.sc_3 rfl rfl
 ·exact rm
 ·rfl
 first | refine op_y (y_add rfl rfl (wi64 (by omega) (by omega))) rfl ?_ | refine op_y (y_add rfl rfl rfl) rfl ?_
 first | refine op_y (y_nil rfl) rfl ?_ | refine op_y (y_nili rfl) rfl ?_ | refine op_y (y_nilf rfl) rfl ?_
 first | refine op_y (y_fld Pool2.fo_409_4 rfl) rfl ?_ | refine op_y (y_flda Pool2.fo_409_4 rfl) rfl ?_
 apply op_st1 Pool2.sz_3 rfl rfl rfl
 ·exact rm
 ·rfl
 ·(first | ((try simp only [zz, splice, Nat.reduceAdd, Nat.zero_mul, Pk.cs, Pc.cs, Eh.cs]) <;> rfl) | rfl)
 refine op_nil ?_
 refine ent_then ?_
 refine cd_seq ?_
 refine cd_region [0, 0, 0, 0] ?_
 refine op_y (y_move rfl) rfl ?_
 first | refine op_y (y_conv Pool2.un_21 Pool2.un_3 rfl (wi64 (by omega) (by omega))) rfl ?_ | refine op_y (y_conv Pool2.un_21 Pool2.un_3 rfl rfl) rfl ?_
 refine op_y (y_assign rfl) rfl ?_
 refine op_y (y_assign rfl) rfl ?_
 refine op_nil ?_
 refine ent_then ?_
 refine cd_ret ?_
 refine ent_ret2 rfl rfl rfl ⟨_, ⟨rfl, rfl⟩, fun w h => ?_⟩
 refine poolC_shut1 (m := { m with cells := m.cells.set f ⟨x, -1, true, false⟩, free := e.next, n := m.n + 1 }) (b := b) (b2 := b2) (r := r) (cap := cap) ?_ ?_
 ·rw [← hb2, List.length_append, List.length_append, flat_length Pc.cs6, flat_length Pc.cs6, List.length_set]
 ·simp only [List.length_set]
  rw [show ((m.n + 1 : Nat) : Int) = (m.n : Int) + 1 from rfl]
  apply Sat.only (h := h)
  exact sx

theorem pAppendE_ct (c : Cx) (p room : Nat) (m : PM) (q i : Nat) (x : Pk) (nx t : Int) (hq : m.ends[q]? = some ⟨-1, t⟩) (hi : m.cells[i]? = some ⟨x, nx, true, false⟩) (hl : m.cells.length ≤ 100000) : Ct Tryz.prog 305 #[.pointer (some ⟨p, 0, none⟩), .int .i64 q, .int .i64 i] c [poolC p room m]
 fun v L => v = .int .i64 0 ∧ L = [poolC p room { m with cells := m.cells.set i ⟨x, -1, true, true⟩, ends := m.ends.set q ⟨i, i⟩ }] := by
 have hi' := lt_of_get hi
 have hq' := lt_of_get hq
 refine ct_fn (args := [.pointer (some ⟨p, 0, none⟩), .int .i64 q, .int .i64 i]) [(0, .pointer (some ⟨p, 0, none⟩)), (1, .int .i64 q), (2, .int .i64 i)] Tryz.func305 rfl Tryz.ntmps305 rfl ⟨rfl, rfl, rfl, trivial⟩ ?_
 refine cd_seq ?_
 refine cd_region [0] ?_
 refine op_y (y_assign rfl) rfl ?_
 refine op_nil ?_
 refine ent_then ?_
 refine cd_seq ?_
 refine cd_block ?_
 refine cd_seq ?_
 refine cd_region [0, 0, 0] ?_
 refine op_y (y_move rfl) rfl ?_
 first | refine op_y (y_peq (r := false) Pool2.un_357 rfl rfl) rfl ?_ | refine op_y (y_peq (r := true) Pool2.un_357 rfl rfl) rfl ?_ | refine op_y (y_peq Pool2.un_357 rfl rfl) rfl ?_
 refine op_y (y_assign rfl) rfl ?_
 refine op_nil ?_
 refine ent_then ?_
 refine cd_iff rfl ?_
 refine cd_seq ?_
 refine cd_region [0, 0, 2, 0, 0] ?_
 refine op_y (y_move rfl) rfl ?_
 refine op_y (y_move rfl) rfl ?_
 apply op_c Pool2.ca_301 rfl rfl (fun e he_ => pHas_ct e p room m q hq')
 ·exact sx
 rintro _ _ ⟨rfl, rfl⟩ G_ hG_
 simp only [zn] at hG_; subst hG_
 first | refine op_y (y_not (b := true) (r := false) rfl rfl) rfl ?_ | refine op_y (y_not (b := false) (r := true) rfl rfl) rfl ?_ | refine op_y (y_not rfl rfl) rfl ?_
 refine op_y (y_assign rfl) rfl ?_
 refine op_nil ?_
 refine ent_then ?_
 refine cd_iff rfl ?_
 refine cd_seq ?_
 refine cd_region [0, 0, 2, 0, 0] ?_
 refine op_y (y_move rfl) rfl ?_
 refine op_y (y_move rfl) rfl ?_
 apply op_c Pool2.ca_302 rfl rfl (fun e he_ => pTaken_ct e p room m i _ hi)
 ·exact sx
 rintro _ _ ⟨rfl, rfl⟩ G_ hG_
 simp only [zn] at hG_; subst hG_
 first | refine op_y (y_not (b := true) (r := false) rfl rfl) rfl ?_ | refine op_y (y_not (b := false) (r := true) rfl rfl) rfl ?_ | refine op_y (y_not rfl rfl) rfl ?_
 refine op_y (y_assign rfl) rfl ?_
 refine op_nil ?_
 refine ent_then ?_
 refine cd_iff rfl ?_
 apply cd_openR (A := poolC p room m)
 ·exact rm
 ·exact poolC_open1 hi
 rintro ⟨b, r, cap, b2⟩ hb2
 simp only [] at hb2 ⊢
 refine cd_seq ?_
 refine cd_region [0, 0, 0, 1, 0, 0, 0, 1, 0] ?_
 refine op_y (y_move rfl) rfl ?_
 first | refine op_y (y_nil rfl) rfl ?_ | refine op_y (y_nili rfl) rfl ?_ | refine op_y (y_nilf rfl) rfl ?_
 first | refine op_y (y_fld0 Pool2.fo_409_0 rfl) rfl ?_ | refine op_y (y_flda Pool2.fo_409_0 rfl) rfl ?_
 apply op_ld Pool2.sc_407 rfl rfl
 ·exact rm
 ·rfl
 refine op_y (y_move rfl) rfl ?_
 first | refine op_y (y_ix0 Pool2.sl_407 rfl rfl rfl (by omega)) rfl ?_ | refine op_y (y_ix0 Pool2.sl_407 rfl rfl (Int.toNat_of_nonneg (by omega)).symm (by omega)) rfl ?_ | refine op_y (y_ix Pool2.sl_407 rfl rfl rfl (by omega)) rfl ?_ | refine op_y (y_ix Pool2.sl_407 rfl rfl (Int.toNat_of_nonneg (by omega)).symm (by omega)) rfl ?_ | refine op_y (y_ixa Pool2.sl_407 rfl rfl rfl (by omega)) rfl ?_ | refine op_y (y_ixa Pool2.sl_407 rfl rfl (Int.toNat_of_nonneg (by omega)).symm (by omega)) rfl ?_
 first | refine op_y (y_fld Pool2.fo_471_3 rfl) rfl ?_ | refine op_y (y_flda Pool2.fo_471_3 rfl) rfl ?_
 apply op_ld Pool2.sc_4 rfl rfl
 ·exact rm
 ·exact flat_get Pc.cs6 (j := 5) r hi (by decide) rfl
 refine op_y (y_assign rfl) rfl ?_
 refine op_nil ?_
 refine ent_then ?_
 refine cd_iff rfl ?_
 have s1 : (m.cells.set i ⟨x, -1, true, false⟩)[i]? = some ⟨x, -1, true, false⟩ := set_get hi
 refine cd_skip ?_
 refine ent_block ?_
 refine ent_then ?_
 refine cd_seq ?_
 refine cd_region [0, 0, 0, 1, 0, 0, 0] ?_
 refine op_y (y_move rfl) rfl ?_
 first | refine op_y (y_nil rfl) rfl ?_ | refine op_y (y_nili rfl) rfl ?_ | refine op_y (y_nilf rfl) rfl ?_
 first | refine op_y (y_fld Pool2.fo_409_1 rfl) rfl ?_ | refine op_y (y_flda Pool2.fo_409_1 rfl) rfl ?_
 apply op_ld Pool2.sc_406 rfl rfl
 ·exact rm
 ·rfl
 refine op_y (y_move rfl) rfl ?_
 first | refine op_y (y_ix0 Pool2.sl_406 rfl rfl rfl (by omega)) rfl ?_ | refine op_y (y_ix0 Pool2.sl_406 rfl rfl (Int.toNat_of_nonneg (by omega)).symm (by omega)) rfl ?_ | refine op_y (y_ix Pool2.sl_406 rfl rfl rfl (by omega)) rfl ?_ | refine op_y (y_ix Pool2.sl_406 rfl rfl (Int.toNat_of_nonneg (by omega)).symm (by omega)) rfl ?_ | refine op_y (y_ixa Pool2.sl_406 rfl rfl rfl (by omega)) rfl ?_ | refine op_y (y_ixa Pool2.sl_406 rfl rfl (Int.toNat_of_nonneg (by omega)).symm (by omega)) rfl ?_
 refine op_y (y_assign rfl) rfl ?_
 refine op_nil ?_
 refine ent_then ?_
 refine cd_seq ?_
 refine cd_draw ([]) [0, 1, 2, 3, 4, 5, 6, 7, 8, 9, 10, 11, 12, 13, 14, 15] [0, 0, 0, 1, 0, 0, 0, 0, 1, 0, 0, 0, 2, 0, 0, 2] mixed_ (by kernel_rfl) ?_
 refine op_y (y_move rfl) rfl ?_
 first | refine op_y (y_nil rfl) rfl ?_ | refine op_y (y_nili rfl) rfl ?_ | refine op_y (y_nilf rfl) rfl ?_
 first | refine op_y (y_fld0 Pool2.fo_409_0 rfl) rfl ?_ | refine op_y (y_flda Pool2.fo_409_0 rfl) rfl ?_
 apply op_ld Pool2.sc_407 rfl rfl
 ·exact rm
 ·rfl
 refine op_y (y_move rfl) rfl ?_
 refine op_y (y_move rfl) rfl ?_
 first | refine op_y (y_nil rfl) rfl ?_ | refine op_y (y_nili rfl) rfl ?_ | refine op_y (y_nilf rfl) rfl ?_
 first | refine op_y (y_fld0 Pool2.fo_409_0 rfl) rfl ?_ | refine op_y (y_flda Pool2.fo_409_0 rfl) rfl ?_
 apply op_ld Pool2.sc_407 rfl rfl
 ·exact rm
 ·rfl
 refine op_y (y_move rfl) rfl ?_
 first | refine op_y (y_ix0 Pool2.sl_407 rfl rfl rfl (by omega)) rfl ?_ | refine op_y (y_ix0 Pool2.sl_407 rfl rfl (Int.toNat_of_nonneg (by omega)).symm (by omega)) rfl ?_ | refine op_y (y_ix Pool2.sl_407 rfl rfl rfl (by omega)) rfl ?_ | refine op_y (y_ix Pool2.sl_407 rfl rfl (Int.toNat_of_nonneg (by omega)).symm (by omega)) rfl ?_ | refine op_y (y_ixa Pool2.sl_407 rfl rfl rfl (by omega)) rfl ?_ | refine op_y (y_ixa Pool2.sl_407 rfl rfl (Int.toNat_of_nonneg (by omega)).symm (by omega)) rfl ?_
 first | refine op_y (y_fld Pool2.fo_471_1 rfl) rfl ?_ | refine op_y (y_flda Pool2.fo_471_1 rfl) rfl ?_
 apply op_st1e Pool2.sz_21 rfl rfl rfl
 ·exact rm
 ·exact flat_lt Pc.cs6 (j := 3) r hi (by decide)
 ·exact flat_set Pc.cs6 (j := 3) (e' := ⟨x, -1, true, false⟩) r hi (by decide) rfl
 first | refine op_y (y_ix0 Pool2.sl_407 rfl rfl rfl (by omega)) rfl ?_ | refine op_y (y_ix0 Pool2.sl_407 rfl rfl (Int.toNat_of_nonneg (by omega)).symm (by omega)) rfl ?_ | refine op_y (y_ix Pool2.sl_407 rfl rfl rfl (by omega)) rfl ?_ | refine op_y (y_ix Pool2.sl_407 rfl rfl (Int.toNat_of_nonneg (by omega)).symm (by omega)) rfl ?_ | refine op_y (y_ixa Pool2.sl_407 rfl rfl rfl (by omega)) rfl ?_ | refine op_y (y_ixa Pool2.sl_407 rfl rfl (Int.toNat_of_nonneg (by omega)).symm (by omega)) rfl ?_
 first | refine op_y (y_fld Pool2.fo_471_3 rfl) rfl ?_ | refine op_y (y_flda Pool2.fo_471_3 rfl) rfl ?_
 apply op_st1e Pool2.sz_4 rfl rfl rfl
 ·exact rm
 ·exact flat_lt Pc.cs6 (j := 5) r s1 (by decide)
 ·exact flat_set Pc.cs6 (j := 5) (e' := ⟨x, -1, true, true⟩) r s1 (by decide) rfl
 refine op_nil ?_
 refine ent_then ?_
 refine cd_seq ?_
 refine cd_seq ?_
 refine cd_region [0, 0, 0, 1, 0] ?_
 refine op_y (y_move rfl) rfl ?_
 first | refine op_y (y_nil rfl) rfl ?_ | refine op_y (y_nili rfl) rfl ?_ | refine op_y (y_nilf rfl) rfl ?_
 first | refine op_y (y_fld0 Pool2.fo_411_0 rfl) rfl ?_ | refine op_y (y_flda Pool2.fo_411_0 rfl) rfl ?_
 apply op_ld Pool2.sc_21 rfl rfl
 ·exact rm
 ·exact flat_get Eh.cs2 (j := 0) [] hq (by decide) rfl
 first | refine op_y (y_eq rfl rfl (eqT (by omega))) rfl ?_ | refine op_y (y_eq rfl rfl (eqF (by omega))) rfl ?_ | refine op_y (y_eq rfl rfl rfl) rfl ?_
 refine op_nil ?_
 refine ent_then ?_
 refine cd_ift rfl ?_
 have s2 : (m.ends.set q ⟨i, t⟩)[q]? = some ⟨i, t⟩ := set_get hq
 refine cd_region [0, 0, 0, 0, 0, 2] ?_
 refine op_y (y_move rfl) rfl ?_
 refine op_y (y_move rfl) rfl ?_
 first | refine op_y (y_conv Pool2.un_3 Pool2.un_21 rfl (wi32 (by omega) (by omega))) rfl ?_ | refine op_y (y_conv Pool2.un_3 Pool2.un_21 rfl rfl) rfl ?_
 first | refine op_y (y_nil rfl) rfl ?_ | refine op_y (y_nili rfl) rfl ?_ | refine op_y (y_nilf rfl) rfl ?_
 first | refine op_y (y_fld0 Pool2.fo_411_0 rfl) rfl ?_ | refine op_y (y_flda Pool2.fo_411_0 rfl) rfl ?_
 apply op_st1e Pool2.sz_21 rfl rfl rfl
 ·exact rm
 ·exact flat_lt Eh.cs2 (j := 0) [] hq (by decide)
 ·exact flat_set Eh.cs2 (j := 0) (e' := ⟨i, t⟩) [] hq (by decide) rfl
 refine op_nil ?_
 refine ent_then ?_
 refine cd_seq ?_
 refine cd_region [0, 0, 0, 0, 0, 2] ?_
 refine op_y (y_move rfl) rfl ?_
 refine op_y (y_move rfl) rfl ?_
 first | refine op_y (y_conv Pool2.un_3 Pool2.un_21 rfl (wi32 (by omega) (by omega))) rfl ?_ | refine op_y (y_conv Pool2.un_3 Pool2.un_21 rfl rfl) rfl ?_
 first | refine op_y (y_nil rfl) rfl ?_ | refine op_y (y_nili rfl) rfl ?_ | refine op_y (y_nilf rfl) rfl ?_
 first | refine op_y (y_fld Pool2.fo_411_1 rfl) rfl ?_ | refine op_y (y_flda Pool2.fo_411_1 rfl) rfl ?_
 apply op_st1e Pool2.sz_21 rfl rfl rfl
 ·exact rm
 ·exact flat_lt Eh.cs2 (j := 1) [] s2 (by decide)
 ·exact flat_set Eh.cs2 (j := 1) (e' := ⟨i, i⟩) [] s2 (by decide) rfl
 refine op_nil ?_
 refine ent_then ?_
 refine cd_seq ?_
 refine cd_region [0] ?_
 refine op_y (y_assign rfl) rfl ?_
 refine op_nil ?_
 refine ent_then ?_
 refine cd_ret ?_
 refine ent_ret1 rfl rfl ⟨_, ⟨rfl, rfl⟩, fun w h => ?_⟩
 simp only [List.set_set] at h
 refine poolC_shut1 (m := { m with cells := m.cells.set i ⟨x, -1, true, true⟩, ends := m.ends.set q ⟨i, i⟩ }) (b := b) (b2 := b2) (r := r) (cap := cap) ?_ ?_
 ·rw [← hb2, List.length_append, List.length_append, flat_length Pc.cs6, flat_length Pc.cs6, List.length_set]
 ·simp only [List.length_set]
  apply Sat.only (h := h)
  exact sx

theorem pAppendN_ct (c : Cx) (p room : Nat) (m : PM) (q i t : Nat) (x y : Pk) (nx ny hd : Int) (tk qk : Bool) (hne : hd ≠ -1) (hq : m.ends[q]? = some ⟨hd, t⟩) (hi : m.cells[i]? = some ⟨x, nx, true, false⟩) (ht : m.cells[t]? = some ⟨y, ny, tk, qk⟩) (hti : t ≠ i) (hl : m.cells.length ≤ 100000) : Ct Tryz.prog 305 #[.pointer (some ⟨p, 0, none⟩), .int .i64 q, .int .i64 i] c [poolC p room m]
 fun v L => v = .int .i64 0 ∧ L = [poolC p room { m with cells := (m.cells.set i ⟨x, -1, true, true⟩).set t ⟨y, i, tk, qk⟩, ends := m.ends.set q ⟨hd, i⟩ }] := by
 have hi' := lt_of_get hi
 have hq' := lt_of_get hq
 have ht' := lt_of_get ht
 refine ct_fn (args := [.pointer (some ⟨p, 0, none⟩), .int .i64 q, .int .i64 i]) [(0, .pointer (some ⟨p, 0, none⟩)), (1, .int .i64 q), (2, .int .i64 i)] Tryz.func305 rfl Tryz.ntmps305 rfl ⟨rfl, rfl, rfl, trivial⟩ ?_
 refine cd_seq ?_
 refine cd_region [0] ?_
 refine op_y (y_assign rfl) rfl ?_
 refine op_nil ?_
 refine ent_then ?_
 refine cd_seq ?_
 refine cd_block ?_
 refine cd_seq ?_
 refine cd_region [0, 0, 0] ?_
 refine op_y (y_move rfl) rfl ?_
 first | refine op_y (y_peq (r := false) Pool2.un_357 rfl rfl) rfl ?_ | refine op_y (y_peq (r := true) Pool2.un_357 rfl rfl) rfl ?_ | refine op_y (y_peq Pool2.un_357 rfl rfl) rfl ?_
 refine op_y (y_assign rfl) rfl ?_
 refine op_nil ?_
 refine ent_then ?_
 refine cd_iff rfl ?_
 refine cd_seq ?_
 refine cd_region [0, 0, 2, 0, 0] ?_
 refine op_y (y_move rfl) rfl ?_
 refine op_y (y_move rfl) rfl ?_
 apply op_c Pool2.ca_301 rfl rfl (fun e he_ => pHas_ct e p room m q hq')
 ·exact sx
 rintro _ _ ⟨rfl, rfl⟩ G_ hG_
 simp only [zn] at hG_; subst hG_
 first | refine op_y (y_not (b := true) (r := false) rfl rfl) rfl ?_ | refine op_y (y_not (b := false) (r := true) rfl rfl) rfl ?_ | refine op_y (y_not rfl rfl) rfl ?_
 refine op_y (y_assign rfl) rfl ?_
 refine op_nil ?_
 refine ent_then ?_
 refine cd_iff rfl ?_
 refine cd_seq ?_
 refine cd_region [0, 0, 2, 0, 0] ?_
 refine op_y (y_move rfl) rfl ?_
 refine op_y (y_move rfl) rfl ?_
 apply op_c Pool2.ca_302 rfl rfl (fun e he_ => pTaken_ct e p room m i _ hi)
 ·exact sx
 rintro _ _ ⟨rfl, rfl⟩ G_ hG_
 simp only [zn] at hG_; subst hG_
 first | refine op_y (y_not (b := true) (r := false) rfl rfl) rfl ?_ | refine op_y (y_not (b := false) (r := true) rfl rfl) rfl ?_ | refine op_y (y_not rfl rfl) rfl ?_
 refine op_y (y_assign rfl) rfl ?_
 refine op_nil ?_
 refine ent_then ?_
 refine cd_iff rfl ?_
 apply cd_openR (A := poolC p room m)
 ·exact rm
 ·exact poolC_open1 hi
 rintro ⟨b, r, cap, b2⟩ hb2
 simp only [] at hb2 ⊢
 refine cd_seq ?_
 refine cd_region [0, 0, 0, 1, 0, 0, 0, 1, 0] ?_
 refine op_y (y_move rfl) rfl ?_
 first | refine op_y (y_nil rfl) rfl ?_ | refine op_y (y_nili rfl) rfl ?_ | refine op_y (y_nilf rfl) rfl ?_
 first | refine op_y (y_fld0 Pool2.fo_409_0 rfl) rfl ?_ | refine op_y (y_flda Pool2.fo_409_0 rfl) rfl ?_
 apply op_ld Pool2.sc_407 rfl rfl
 ·exact rm
 ·rfl
 refine op_y (y_move rfl) rfl ?_
 first | refine op_y (y_ix0 Pool2.sl_407 rfl rfl rfl (by omega)) rfl ?_ | refine op_y (y_ix0 Pool2.sl_407 rfl rfl (Int.toNat_of_nonneg (by omega)).symm (by omega)) rfl ?_ | refine op_y (y_ix Pool2.sl_407 rfl rfl rfl (by omega)) rfl ?_ | refine op_y (y_ix Pool2.sl_407 rfl rfl (Int.toNat_of_nonneg (by omega)).symm (by omega)) rfl ?_ | refine op_y (y_ixa Pool2.sl_407 rfl rfl rfl (by omega)) rfl ?_ | refine op_y (y_ixa Pool2.sl_407 rfl rfl (Int.toNat_of_nonneg (by omega)).symm (by omega)) rfl ?_
 first | refine op_y (y_fld Pool2.fo_471_3 rfl) rfl ?_ | refine op_y (y_flda Pool2.fo_471_3 rfl) rfl ?_
 apply op_ld Pool2.sc_4 rfl rfl
 ·exact rm
 ·exact flat_get Pc.cs6 (j := 5) r hi (by decide) rfl
 refine op_y (y_assign rfl) rfl ?_
 refine op_nil ?_
 refine ent_then ?_
 refine cd_iff rfl ?_
 have s1 : (m.cells.set i ⟨x, -1, true, false⟩)[i]? = some ⟨x, -1, true, false⟩ := set_get hi
 have s3 : ((m.cells.set i ⟨x, -1, true, false⟩).set i ⟨x, -1, true, true⟩)[t]? = some ⟨y, ny, tk, qk⟩ := by
  rw [List.set_set, List.getElem?_set_ne (Ne.symm hti)]; exact ht
 refine cd_skip ?_
 refine ent_block ?_
 refine ent_then ?_
 refine cd_seq ?_
 refine cd_region [0, 0, 0, 1, 0, 0, 0] ?_
 refine op_y (y_move rfl) rfl ?_
 first | refine op_y (y_nil rfl) rfl ?_ | refine op_y (y_nili rfl) rfl ?_ | refine op_y (y_nilf rfl) rfl ?_
 first | refine op_y (y_fld Pool2.fo_409_1 rfl) rfl ?_ | refine op_y (y_flda Pool2.fo_409_1 rfl) rfl ?_
 apply op_ld Pool2.sc_406 rfl rfl
 ·exact rm
 ·rfl
 refine op_y (y_move rfl) rfl ?_
 first | refine op_y (y_ix0 Pool2.sl_406 rfl rfl rfl (by omega)) rfl ?_ | refine op_y (y_ix0 Pool2.sl_406 rfl rfl (Int.toNat_of_nonneg (by omega)).symm (by omega)) rfl ?_ | refine op_y (y_ix Pool2.sl_406 rfl rfl rfl (by omega)) rfl ?_ | refine op_y (y_ix Pool2.sl_406 rfl rfl (Int.toNat_of_nonneg (by omega)).symm (by omega)) rfl ?_ | refine op_y (y_ixa Pool2.sl_406 rfl rfl rfl (by omega)) rfl ?_ | refine op_y (y_ixa Pool2.sl_406 rfl rfl (Int.toNat_of_nonneg (by omega)).symm (by omega)) rfl ?_
 refine op_y (y_assign rfl) rfl ?_
 refine op_nil ?_
 refine ent_then ?_
 refine cd_seq ?_
 refine cd_draw ([]) [0, 1, 2, 3, 4, 5, 6, 7, 8, 9, 10, 11, 12, 13, 14, 15] [0, 0, 0, 1, 0, 0, 0, 0, 1, 0, 0, 0, 2, 0, 0, 2] mixed_ (by kernel_rfl) ?_
 refine op_y (y_move rfl) rfl ?_
 first | refine op_y (y_nil rfl) rfl ?_ | refine op_y (y_nili rfl) rfl ?_ | refine op_y (y_nilf rfl) rfl ?_
 first | refine op_y (y_fld0 Pool2.fo_409_0 rfl) rfl ?_ | refine op_y (y_flda Pool2.fo_409_0 rfl) rfl ?_
 apply op_ld Pool2.sc_407 rfl rfl
 ·exact rm
 ·rfl
 refine op_y (y_move rfl) rfl ?_
 refine op_y (y_move rfl) rfl ?_
 first | refine op_y (y_nil rfl) rfl ?_ | refine op_y (y_nili rfl) rfl ?_ | refine op_y (y_nilf rfl) rfl ?_
 first | refine op_y (y_fld0 Pool2.fo_409_0 rfl) rfl ?_ | refine op_y (y_flda Pool2.fo_409_0 rfl) rfl ?_
 apply op_ld Pool2.sc_407 rfl rfl
 ·exact rm
 ·rfl
 refine op_y (y_move rfl) rfl ?_
 first | refine op_y (y_ix0 Pool2.sl_407 rfl rfl rfl (by omega)) rfl ?_ | refine op_y (y_ix0 Pool2.sl_407 rfl rfl (Int.toNat_of_nonneg (by omega)).symm (by omega)) rfl ?_ | refine op_y (y_ix Pool2.sl_407 rfl rfl rfl (by omega)) rfl ?_ | refine op_y (y_ix Pool2.sl_407 rfl rfl (Int.toNat_of_nonneg (by omega)).symm (by omega)) rfl ?_ | refine op_y (y_ixa Pool2.sl_407 rfl rfl rfl (by omega)) rfl ?_ | refine op_y (y_ixa Pool2.sl_407 rfl rfl (Int.toNat_of_nonneg (by omega)).symm (by omega)) rfl ?_
 first | refine op_y (y_fld Pool2.fo_471_1 rfl) rfl ?_ | refine op_y (y_flda Pool2.fo_471_1 rfl) rfl ?_
 apply op_st1e Pool2.sz_21 rfl rfl rfl
 ·exact rm
 ·exact flat_lt Pc.cs6 (j := 3) r hi (by decide)
 ·exact flat_set Pc.cs6 (j := 3) (e' := ⟨x, -1, true, false⟩) r hi (by decide) rfl
 first | refine op_y (y_ix0 Pool2.sl_407 rfl rfl rfl (by omega)) rfl ?_ | refine op_y (y_ix0 Pool2.sl_407 rfl rfl (Int.toNat_of_nonneg (by omega)).symm (by omega)) rfl ?_ | refine op_y (y_ix Pool2.sl_407 rfl rfl rfl (by omega)) rfl ?_ | refine op_y (y_ix Pool2.sl_407 rfl rfl (Int.toNat_of_nonneg (by omega)).symm (by omega)) rfl ?_ | refine op_y (y_ixa Pool2.sl_407 rfl rfl rfl (by omega)) rfl ?_ | refine op_y (y_ixa Pool2.sl_407 rfl rfl (Int.toNat_of_nonneg (by omega)).symm (by omega)) rfl ?_
 first | refine op_y (y_fld Pool2.fo_471_3 rfl) rfl ?_ | refine op_y (y_flda Pool2.fo_471_3 rfl) rfl ?_
 apply op_st1e Pool2.sz_4 rfl rfl rfl
 ·exact rm
 ·exact flat_lt Pc.cs6 (j := 5) r s1 (by decide)
 ·exact flat_set Pc.cs6 (j := 5) (e' := ⟨x, -1, true, true⟩) r s1 (by decide) rfl
 refine op_nil ?_
 refine ent_then ?_
 refine cd_seq ?_
 refine cd_seq ?_
 refine cd_region [0, 0, 0, 1, 0] ?_
 refine op_y (y_move rfl) rfl ?_
 first | refine op_y (y_nil rfl) rfl ?_ | refine op_y (y_nili rfl) rfl ?_ | refine op_y (y_nilf rfl) rfl ?_
 first | refine op_y (y_fld0 Pool2.fo_411_0 rfl) rfl ?_ | refine op_y (y_flda Pool2.fo_411_0 rfl) rfl ?_
 apply op_ld Pool2.sc_21 rfl rfl
 ·exact rm
 ·exact flat_get Eh.cs2 (j := 0) [] hq (by decide) rfl
 first | refine op_y (y_eq rfl rfl (eqT (by omega))) rfl ?_ | refine op_y (y_eq rfl rfl (eqF (by omega))) rfl ?_ | refine op_y (y_eq rfl rfl rfl) rfl ?_
 refine op_nil ?_
 refine ent_then ?_
 refine cd_iff rfl ?_
 refine cd_draw ([]) [0, 1, 2, 3, 4, 5, 6, 7, 8, 9, 10, 11, 12] [0, 0, 0, 1, 0, 0, 0, 1, 0, 0, 0, 0, 2] mixed_ (by kernel_rfl) ?_
 refine op_y (y_move rfl) rfl ?_
 first | refine op_y (y_nil rfl) rfl ?_ | refine op_y (y_nili rfl) rfl ?_ | refine op_y (y_nilf rfl) rfl ?_
 first | refine op_y (y_fld0 Pool2.fo_409_0 rfl) rfl ?_ | refine op_y (y_flda Pool2.fo_409_0 rfl) rfl ?_
 apply op_ld Pool2.sc_407 rfl rfl
 ·exact rm
 ·rfl
 refine op_y (y_move rfl) rfl ?_
 first | refine op_y (y_nil rfl) rfl ?_ | refine op_y (y_nili rfl) rfl ?_ | refine op_y (y_nilf rfl) rfl ?_
 first | refine op_y (y_fld Pool2.fo_411_1 rfl) rfl ?_ | refine op_y (y_flda Pool2.fo_411_1 rfl) rfl ?_
 apply op_ld Pool2.sc_21 rfl rfl
 ·exact rm
 ·exact flat_get Eh.cs2 (j := 1) (v := Value.int .i32 (t : Int)) [] hq (by decide) rfl
 refine op_y (y_move rfl) rfl ?_
 first | refine op_y (y_conv Pool2.un_3 Pool2.un_21 rfl (wi32 (by omega) (by omega))) rfl ?_ | refine op_y (y_conv Pool2.un_3 Pool2.un_21 rfl rfl) rfl ?_
 first | refine op_y (y_ix0 (j := t) Pool2.sl_407 rfl rfl (by omega) (by omega)) rfl ?_ | refine op_y (y_ix (j := t) Pool2.sl_407 rfl rfl (by omega) (by omega)) rfl ?_ | refine op_y (y_ixa (j := t) Pool2.sl_407 rfl rfl (by omega) (by omega)) rfl ?_
 first | refine op_y (y_fld Pool2.fo_471_1 rfl) rfl ?_ | refine op_y (y_flda Pool2.fo_471_1 rfl) rfl ?_
 apply op_st1e Pool2.sz_21 rfl rfl rfl
 ·exact rm
 ·exact flat_lt Pc.cs6 (j := 3) r s3 (by decide)
 ·exact flat_set Pc.cs6 (j := 3) (e' := ⟨y, i, tk, qk⟩) r s3 (by decide) rfl
 refine op_nil ?_
 refine ent_then ?_
 refine cd_seq ?_
 refine cd_region [0, 0, 0, 0, 0, 2] ?_
 refine op_y (y_move rfl) rfl ?_
 refine op_y (y_move rfl) rfl ?_
 first | refine op_y (y_conv Pool2.un_3 Pool2.un_21 rfl (wi32 (by omega) (by omega))) rfl ?_ | refine op_y (y_conv Pool2.un_3 Pool2.un_21 rfl rfl) rfl ?_
 first | refine op_y (y_nil rfl) rfl ?_ | refine op_y (y_nili rfl) rfl ?_ | refine op_y (y_nilf rfl) rfl ?_
 first | refine op_y (y_fld Pool2.fo_411_1 rfl) rfl ?_ | refine op_y (y_flda Pool2.fo_411_1 rfl) rfl ?_
 apply op_st1e Pool2.sz_21 rfl rfl rfl
 ·exact rm
 ·exact flat_lt Eh.cs2 (j := 1) [] hq (by decide)
 ·exact flat_set Eh.cs2 (j := 1) (e' := ⟨hd, i⟩) [] hq (by decide) rfl
 refine op_nil ?_
 refine ent_then ?_
 refine cd_seq ?_
 refine cd_region [0] ?_
 refine op_y (y_assign rfl) rfl ?_
 refine op_nil ?_
 refine ent_then ?_
 refine cd_ret ?_
 refine ent_ret1 rfl rfl ⟨_, ⟨rfl, rfl⟩, fun w h => ?_⟩
 rw [List.set_set] at h
 refine poolC_shut1 (m := { m with cells := (m.cells.set i ⟨x, -1, true, true⟩).set t ⟨y, i, tk, qk⟩, ends := m.ends.set q ⟨hd, i⟩ }) (b := b) (b2 := b2) (r := r) (cap := cap) ?_ ?_
 ·rw [← hb2, List.length_append, List.length_append, flat_length Pc.cs6, flat_length Pc.cs6, List.length_set, List.length_set]
 ·simp only [List.length_set]
  apply Sat.only (h := h)
  exact sx

theorem pPopE_ct (c : Cx) (p room : Nat) (m : PM) (q : Nat) (t : Int) (hq : m.ends[q]? = some ⟨-1, t⟩) : Ct Tryz.prog 293 #[.pointer (some ⟨p, 0, none⟩), .int .i64 q] c [poolC p room m]
 fun v L => v = .tuple #[.int .i64 0, .bool false] ∧ L = [poolC p room m] := by
 refine ct_fn (args := [.pointer (some ⟨p, 0, none⟩), .int .i64 q]) [(0, .pointer (some ⟨p, 0, none⟩)), (1, .int .i64 q)] Tryz.func293 rfl Tryz.ntmps293 rfl ⟨rfl, rfl, trivial⟩ ?_
 refine cd_seq ?_
 refine cd_region [0, 0] ?_
 refine op_y (y_assign rfl) rfl ?_
 refine op_y (y_assign rfl) rfl ?_
 refine op_nil ?_
 refine ent_then ?_
 refine cd_seq ?_
 refine cd_region [0, 0, 2, 0, 0, 0, 0, 0] ?_
 refine op_y (y_move rfl) rfl ?_
 refine op_y (y_move rfl) rfl ?_
 apply op_c Pool2.ca_289 rfl rfl (fun e he_ => pHead_ct e p room m q _ hq (.inl rfl))
 ·exact sx
 rintro _ _ ⟨rfl, rfl⟩ G_ hG_
 simp only [zn] at hG_; subst hG_
 refine op_y (y_move rfl) rfl ?_
 refine op_y (y_ext rfl rfl) rfl ?_
 refine op_y (y_ext rfl rfl) rfl ?_
 refine op_y (y_assign rfl) rfl ?_
 refine op_y (y_assign rfl) rfl ?_
 refine op_nil ?_
 refine ent_then ?_
 refine cd_seq ?_
 refine cd_seq ?_
 refine cd_region [0, 0] ?_
 refine op_y (y_move rfl) rfl ?_
 first | refine op_y (y_not (b := true) (r := false) rfl rfl) rfl ?_ | refine op_y (y_not (b := false) (r := true) rfl rfl) rfl ?_ | refine op_y (y_not rfl rfl) rfl ?_
 refine op_nil ?_
 refine ent_then ?_
 refine cd_ift rfl ?_
 refine cd_seq ?_
 refine cd_region [0, 0] ?_
 refine op_y (y_assign rfl) rfl ?_
 refine op_y (y_assign rfl) rfl ?_
 refine op_nil ?_
 refine ent_then ?_
 refine cd_ret ?_
 refine ent_thn_ret ?_
 refine ent_ret2 rfl rfl rfl ⟨_, ⟨rfl, rfl⟩, fun w h => h⟩

theorem pPopN_ct (c : Cx) (p room : Nat) (m : PM) (q i : Nat) (x : Pk) (nx t : Int) (hq : m.ends[q]? = some ⟨i, t⟩) (hi : m.cells[i]? = some ⟨x, nx, true, true⟩) (hl : m.cells.length ≤ 100000) : Ct Tryz.prog 293 #[.pointer (some ⟨p, 0, none⟩), .int .i64 q] c [poolC p room m]
 fun v L => v = .tuple #[.int .i64 i, .bool true] ∧ L = [poolC p room { m with cells := m.cells.set i ⟨x, -1, true, false⟩, ends := m.ends.set q ⟨nx, if nx = -1 then -1 else t⟩ }] := by
 have hi' := lt_of_get hi
 have hq' := lt_of_get hq
 have hnn : ¬ ((i : Int) = -1) := by omega
 refine ct_fn (args := [.pointer (some ⟨p, 0, none⟩), .int .i64 q]) [(0, .pointer (some ⟨p, 0, none⟩)), (1, .int .i64 q)] Tryz.func293 rfl Tryz.ntmps293 rfl ⟨rfl, rfl, trivial⟩ ?_
 refine cd_seq ?_
 refine cd_region [0, 0] ?_
 refine op_y (y_assign rfl) rfl ?_
 refine op_y (y_assign rfl) rfl ?_
 refine op_nil ?_
 refine ent_then ?_
 refine cd_seq ?_
 refine cd_region [0, 0, 2, 0, 0, 0, 0, 0] ?_
 refine op_y (y_move rfl) rfl ?_
 refine op_y (y_move rfl) rfl ?_
 apply op_c Pool2.ca_289 rfl rfl (fun e he_ => pHead_ct e p room m q _ hq (.inr ⟨i, rfl, by omega⟩))
 ·exact sx
 rintro _ _ ⟨rfl, rfl⟩ G_ hG_
 simp only [zn] at hG_; subst hG_
 simp only [hnn, if_false, decide_false, Bool.not_false]
 refine op_y (y_move rfl) rfl ?_
 refine op_y (y_ext rfl rfl) rfl ?_
 refine op_y (y_ext rfl rfl) rfl ?_
 refine op_y (y_assign rfl) rfl ?_
 refine op_y (y_assign rfl) rfl ?_
 refine op_nil ?_
 refine ent_then ?_
 refine cd_seq ?_
 refine cd_seq ?_
 refine cd_region [0, 0] ?_
 refine op_y (y_move rfl) rfl ?_
 first | refine op_y (y_not (b := true) (r := false) rfl rfl) rfl ?_ | refine op_y (y_not (b := false) (r := true) rfl rfl) rfl ?_ | refine op_y (y_not rfl rfl) rfl ?_
 refine op_nil ?_
 refine ent_then ?_
 refine cd_iff rfl ?_
 apply cd_openR (A := poolC p room m)
 ·exact rm
 ·exact poolC_open1 hi
 rintro ⟨b, r, cap, b2⟩ hb2
 simp only [] at hb2 ⊢
 have s1 : (m.cells.set i ⟨x, -1, true, true⟩)[i]? = some ⟨x, -1, true, true⟩ := set_get hi
 have s2 : (m.ends.set q ⟨nx, t⟩)[q]? = some ⟨nx, t⟩ := set_get hq
 by_cases hx : nx = -1
 ·skip
  rw [if_pos hx]
  refine cd_skip ?_
  refine ent_then ?_
  refine cd_seq ?_
  refine cd_region [0, 0, 0, 1, 0, 0, 0] ?_
  refine op_y (y_move rfl) rfl ?_
  first | refine op_y (y_nil rfl) rfl ?_ | refine op_y (y_nili rfl) rfl ?_ | refine op_y (y_nilf rfl) rfl ?_
  first | refine op_y (y_fld Pool2.fo_409_1 rfl) rfl ?_ | refine op_y (y_flda Pool2.fo_409_1 rfl) rfl ?_
  apply op_ld Pool2.sc_406 rfl rfl
  ·exact rm
  ·rfl
  refine op_y (y_move rfl) rfl ?_
  first | refine op_y (y_ix0 Pool2.sl_406 rfl rfl rfl (by omega)) rfl ?_ | refine op_y (y_ix0 Pool2.sl_406 rfl rfl (Int.toNat_of_nonneg (by omega)).symm (by omega)) rfl ?_ | refine op_y (y_ix Pool2.sl_406 rfl rfl rfl (by omega)) rfl ?_ | refine op_y (y_ix Pool2.sl_406 rfl rfl (Int.toNat_of_nonneg (by omega)).symm (by omega)) rfl ?_ | refine op_y (y_ixa Pool2.sl_406 rfl rfl rfl (by omega)) rfl ?_ | refine op_y (y_ixa Pool2.sl_406 rfl rfl (Int.toNat_of_nonneg (by omega)).symm (by omega)) rfl ?_
  refine op_y (y_assign rfl) rfl ?_
  refine op_nil ?_
  refine ent_then ?_
  refine cd_seq ?_
  refine cd_seq ?_
  refine cd_region [0, 0, 0, 0, 1, 0, 0, 0, 1, 0, 0, 2] ?_
  refine op_y (y_move rfl) rfl ?_
  refine op_y (y_move rfl) rfl ?_
  first | refine op_y (y_nil rfl) rfl ?_ | refine op_y (y_nili rfl) rfl ?_ | refine op_y (y_nilf rfl) rfl ?_
  first | refine op_y (y_fld0 Pool2.fo_409_0 rfl) rfl ?_ | refine op_y (y_flda Pool2.fo_409_0 rfl) rfl ?_
  apply op_ld Pool2.sc_407 rfl rfl
  ·exact rm
  ·rfl
  refine op_y (y_move rfl) rfl ?_
  first | refine op_y (y_ix0 (j := i) Pool2.sl_407 rfl rfl (by omega) (by omega)) rfl ?_ | refine op_y (y_ix (j := i) Pool2.sl_407 rfl rfl (by omega) (by omega)) rfl ?_ | refine op_y (y_ixa (j := i) Pool2.sl_407 rfl rfl (by omega) (by omega)) rfl ?_
  first | refine op_y (y_fld Pool2.fo_471_1 rfl) rfl ?_ | refine op_y (y_flda Pool2.fo_471_1 rfl) rfl ?_
  apply op_ld Pool2.sc_21 rfl rfl
  ·exact rm
  ·exact flat_get Pc.cs6 (j := 3) r hi (by decide) rfl
  first | refine op_y (y_nil rfl) rfl ?_ | refine op_y (y_nili rfl) rfl ?_ | refine op_y (y_nilf rfl) rfl ?_
  first | refine op_y (y_fld0 Pool2.fo_411_0 rfl) rfl ?_ | refine op_y (y_flda Pool2.fo_411_0 rfl) rfl ?_
  apply op_st1e Pool2.sz_21 rfl rfl rfl
  ·exact rm
  ·exact flat_lt Eh.cs2 (j := 0) [] hq (by decide)
  ·exact flat_set Eh.cs2 (j := 0) (e' := ⟨nx, t⟩) [] hq (by decide) rfl
  refine op_nil ?_
  refine ent_then ?_
  refine cd_seq ?_
  refine cd_region [0, 0, 0, 1, 0] ?_
  refine op_y (y_move rfl) rfl ?_
  first | refine op_y (y_nil rfl) rfl ?_ | refine op_y (y_nili rfl) rfl ?_ | refine op_y (y_nilf rfl) rfl ?_
  first | refine op_y (y_fld0 Pool2.fo_411_0 rfl) rfl ?_ | refine op_y (y_flda Pool2.fo_411_0 rfl) rfl ?_
  apply op_ld Pool2.sc_21 rfl rfl
  ·exact rm
  ·exact flat_get Eh.cs2 (j := 0) [] s2 (by decide) rfl
  first | refine op_y (y_eq rfl rfl (eqT (by omega))) rfl ?_ | refine op_y (y_eq rfl rfl (eqF (by omega))) rfl ?_ | refine op_y (y_eq rfl rfl rfl) rfl ?_
  refine op_nil ?_
  refine ent_then ?_
  refine cd_ift rfl ?_
  refine cd_region [0, 0, 0, 2] ?_
  refine op_y (y_move rfl) rfl ?_
  first | refine op_y (y_nil rfl) rfl ?_ | refine op_y (y_nili rfl) rfl ?_ | refine op_y (y_nilf rfl) rfl ?_
  first | refine op_y (y_fld Pool2.fo_411_1 rfl) rfl ?_ | refine op_y (y_flda Pool2.fo_411_1 rfl) rfl ?_
  apply op_st1e Pool2.sz_21 rfl rfl rfl
  ·exact rm
  ·exact flat_lt Eh.cs2 (j := 1) [] s2 (by decide)
  ·exact flat_set Eh.cs2 (j := 1) (e' := ⟨nx, -1⟩) [] s2 (by decide) rfl
  refine op_nil ?_
  refine ent_then ?_
  refine cd_seq ?_
  refine cd_draw ([]) [0, 1, 2, 3, 4, 5, 6, 7, 8, 9, 10, 11, 12, 13, 14, 15] [0, 0, 0, 1, 0, 0, 0, 0, 1, 0, 0, 0, 2, 0, 0, 2] mixed_ (by kernel_rfl) ?_
  refine op_y (y_move rfl) rfl ?_
  first | refine op_y (y_nil rfl) rfl ?_ | refine op_y (y_nili rfl) rfl ?_ | refine op_y (y_nilf rfl) rfl ?_
  first | refine op_y (y_fld0 Pool2.fo_409_0 rfl) rfl ?_ | refine op_y (y_flda Pool2.fo_409_0 rfl) rfl ?_
  apply op_ld Pool2.sc_407 rfl rfl
  ·exact rm
  ·rfl
  refine op_y (y_move rfl) rfl ?_
  refine op_y (y_move rfl) rfl ?_
  first | refine op_y (y_nil rfl) rfl ?_ | refine op_y (y_nili rfl) rfl ?_ | refine op_y (y_nilf rfl) rfl ?_
  first | refine op_y (y_fld0 Pool2.fo_409_0 rfl) rfl ?_ | refine op_y (y_flda Pool2.fo_409_0 rfl) rfl ?_
  apply op_ld Pool2.sc_407 rfl rfl
  ·exact rm
  ·rfl
  refine op_y (y_move rfl) rfl ?_
  first | refine op_y (y_ix0 (j := i) Pool2.sl_407 rfl rfl (by omega) (by omega)) rfl ?_ | refine op_y (y_ix (j := i) Pool2.sl_407 rfl rfl (by omega) (by omega)) rfl ?_ | refine op_y (y_ixa (j := i) Pool2.sl_407 rfl rfl (by omega) (by omega)) rfl ?_
  first | refine op_y (y_fld Pool2.fo_471_1 rfl) rfl ?_ | refine op_y (y_flda Pool2.fo_471_1 rfl) rfl ?_
  apply op_st1e Pool2.sz_21 rfl rfl rfl
  ·exact rm
  ·exact flat_lt Pc.cs6 (j := 3) r hi (by decide)
  ·exact flat_set Pc.cs6 (j := 3) (e' := ⟨x, -1, true, true⟩) r hi (by decide) rfl
  first | refine op_y (y_ix0 (j := i) Pool2.sl_407 rfl rfl (by omega) (by omega)) rfl ?_ | refine op_y (y_ix (j := i) Pool2.sl_407 rfl rfl (by omega) (by omega)) rfl ?_ | refine op_y (y_ixa (j := i) Pool2.sl_407 rfl rfl (by omega) (by omega)) rfl ?_
  first | refine op_y (y_fld Pool2.fo_471_3 rfl) rfl ?_ | refine op_y (y_flda Pool2.fo_471_3 rfl) rfl ?_
  apply op_st1e Pool2.sz_4 rfl rfl rfl
  ·exact rm
  ·exact flat_lt Pc.cs6 (j := 5) r s1 (by decide)
  ·exact flat_set Pc.cs6 (j := 5) (e' := ⟨x, -1, true, false⟩) r s1 (by decide) rfl
  refine op_nil ?_
  refine ent_then ?_
  refine cd_seq ?_
  refine cd_region [0, 0, 0] ?_
  refine op_y (y_move rfl) rfl ?_
  refine op_y (y_assign rfl) rfl ?_
  refine op_y (y_assign rfl) rfl ?_
  refine op_nil ?_
  refine ent_then ?_
  refine cd_ret ?_
  refine ent_ret2 rfl rfl rfl ⟨_, ⟨rfl, rfl⟩, fun w h => ?_⟩
  simp only [List.set_set] at h
  refine poolC_shut1 (m := { m with cells := m.cells.set i ⟨x, -1, true, false⟩, ends := m.ends.set q ⟨nx, -1⟩ }) (b := b) (b2 := b2) (r := r) (cap := cap) ?_ ?_
  ·rw [← hb2, List.length_append, List.length_append, flat_length Pc.cs6, flat_length Pc.cs6, List.length_set]
  ·simp only [List.length_set]
   apply Sat.only (h := h)
   exact sx
 ·skip
  rw [if_neg hx]
  refine cd_skip ?_
  refine ent_then ?_
  refine cd_seq ?_
  refine cd_region [0, 0, 0, 1, 0, 0, 0] ?_
  refine op_y (y_move rfl) rfl ?_
  first | refine op_y (y_nil rfl) rfl ?_ | refine op_y (y_nili rfl) rfl ?_ | refine op_y (y_nilf rfl) rfl ?_
  first | refine op_y (y_fld Pool2.fo_409_1 rfl) rfl ?_ | refine op_y (y_flda Pool2.fo_409_1 rfl) rfl ?_
  apply op_ld Pool2.sc_406 rfl rfl
  ·exact rm
  ·rfl
  refine op_y (y_move rfl) rfl ?_
  first | refine op_y (y_ix0 Pool2.sl_406 rfl rfl rfl (by omega)) rfl ?_ | refine op_y (y_ix0 Pool2.sl_406 rfl rfl (Int.toNat_of_nonneg (by omega)).symm (by omega)) rfl ?_ | refine op_y (y_ix Pool2.sl_406 rfl rfl rfl (by omega)) rfl ?_ | refine op_y (y_ix Pool2.sl_406 rfl rfl (Int.toNat_of_nonneg (by omega)).symm (by omega)) rfl ?_ | refine op_y (y_ixa Pool2.sl_406 rfl rfl rfl (by omega)) rfl ?_ | refine op_y (y_ixa Pool2.sl_406 rfl rfl (Int.toNat_of_nonneg (by omega)).symm (by omega)) rfl ?_
  refine op_y (y_assign rfl) rfl ?_
  refine op_nil ?_
  refine ent_then ?_
  refine cd_seq ?_
  refine cd_seq ?_
  refine cd_region [0, 0, 0, 0, 1, 0, 0, 0, 1, 0, 0, 2] ?_
  refine op_y (y_move rfl) rfl ?_
  refine op_y (y_move rfl) rfl ?_
  first | refine op_y (y_nil rfl) rfl ?_ | refine op_y (y_nili rfl) rfl ?_ | refine op_y (y_nilf rfl) rfl ?_
  first | refine op_y (y_fld0 Pool2.fo_409_0 rfl) rfl ?_ | refine op_y (y_flda Pool2.fo_409_0 rfl) rfl ?_
  apply op_ld Pool2.sc_407 rfl rfl
  ·exact rm
  ·rfl
  refine op_y (y_move rfl) rfl ?_
  first | refine op_y (y_ix0 (j := i) Pool2.sl_407 rfl rfl (by omega) (by omega)) rfl ?_ | refine op_y (y_ix (j := i) Pool2.sl_407 rfl rfl (by omega) (by omega)) rfl ?_ | refine op_y (y_ixa (j := i) Pool2.sl_407 rfl rfl (by omega) (by omega)) rfl ?_
  first | refine op_y (y_fld Pool2.fo_471_1 rfl) rfl ?_ | refine op_y (y_flda Pool2.fo_471_1 rfl) rfl ?_
  apply op_ld Pool2.sc_21 rfl rfl
  ·exact rm
  ·exact flat_get Pc.cs6 (j := 3) r hi (by decide) rfl
  first | refine op_y (y_nil rfl) rfl ?_ | refine op_y (y_nili rfl) rfl ?_ | refine op_y (y_nilf rfl) rfl ?_
  first | refine op_y (y_fld0 Pool2.fo_411_0 rfl) rfl ?_ | refine op_y (y_flda Pool2.fo_411_0 rfl) rfl ?_
  apply op_st1e Pool2.sz_21 rfl rfl rfl
  ·exact rm
  ·exact flat_lt Eh.cs2 (j := 0) [] hq (by decide)
  ·exact flat_set Eh.cs2 (j := 0) (e' := ⟨nx, t⟩) [] hq (by decide) rfl
  refine op_nil ?_
  refine ent_then ?_
  refine cd_seq ?_
  refine cd_region [0, 0, 0, 1, 0] ?_
  refine op_y (y_move rfl) rfl ?_
  first | refine op_y (y_nil rfl) rfl ?_ | refine op_y (y_nili rfl) rfl ?_ | refine op_y (y_nilf rfl) rfl ?_
  first | refine op_y (y_fld0 Pool2.fo_411_0 rfl) rfl ?_ | refine op_y (y_flda Pool2.fo_411_0 rfl) rfl ?_
  apply op_ld Pool2.sc_21 rfl rfl
  ·exact rm
  ·exact flat_get Eh.cs2 (j := 0) [] s2 (by decide) rfl
  first | refine op_y (y_eq rfl rfl (eqT (by omega))) rfl ?_ | refine op_y (y_eq rfl rfl (eqF (by omega))) rfl ?_ | refine op_y (y_eq rfl rfl rfl) rfl ?_
  refine op_nil ?_
  refine ent_then ?_
  refine cd_iff rfl ?_
  refine cd_skip ?_
  refine ent_then ?_
  refine cd_seq ?_
  refine cd_draw ([]) [0, 1, 2, 3, 4, 5, 6, 7, 8, 9, 10, 11, 12, 13, 14, 15] [0, 0, 0, 1, 0, 0, 0, 0, 1, 0, 0, 0, 2, 0, 0, 2] mixed_ (by kernel_rfl) ?_
  refine op_y (y_move rfl) rfl ?_
  first | refine op_y (y_nil rfl) rfl ?_ | refine op_y (y_nili rfl) rfl ?_ | refine op_y (y_nilf rfl) rfl ?_
  first | refine op_y (y_fld0 Pool2.fo_409_0 rfl) rfl ?_ | refine op_y (y_flda Pool2.fo_409_0 rfl) rfl ?_
  apply op_ld Pool2.sc_407 rfl rfl
  ·exact rm
  ·rfl
  refine op_y (y_move rfl) rfl ?_
  refine op_y (y_move rfl) rfl ?_
  first | refine op_y (y_nil rfl) rfl ?_ | refine op_y (y_nili rfl) rfl ?_ | refine op_y (y_nilf rfl) rfl ?_
  first | refine op_y (y_fld0 Pool2.fo_409_0 rfl) rfl ?_ | refine op_y (y_flda Pool2.fo_409_0 rfl) rfl ?_
  apply op_ld Pool2.sc_407 rfl rfl
  ·exact rm
  ·rfl
  refine op_y (y_move rfl) rfl ?_
  first | refine op_y (y_ix0 (j := i) Pool2.sl_407 rfl rfl (by omega) (by omega)) rfl ?_ | refine op_y (y_ix (j := i) Pool2.sl_407 rfl rfl (by omega) (by omega)) rfl ?_ | refine op_y (y_ixa (j := i) Pool2.sl_407 rfl rfl (by omega) (by omega)) rfl ?_
  first | refine op_y (y_fld Pool2.fo_471_1 rfl) rfl ?_ | refine op_y (y_flda Pool2.fo_471_1 rfl) rfl ?_
  apply op_st1e Pool2.sz_21 rfl rfl rfl
  ·exact rm
  ·exact flat_lt Pc.cs6 (j := 3) r hi (by decide)
  ·exact flat_set Pc.cs6 (j := 3) (e' := ⟨x, -1, true, true⟩) r hi (by decide) rfl
  first | refine op_y (y_ix0 (j := i) Pool2.sl_407 rfl rfl (by omega) (by omega)) rfl ?_ | refine op_y (y_ix (j := i) Pool2.sl_407 rfl rfl (by omega) (by omega)) rfl ?_ | refine op_y (y_ixa (j := i) Pool2.sl_407 rfl rfl (by omega) (by omega)) rfl ?_
  first | refine op_y (y_fld Pool2.fo_471_3 rfl) rfl ?_ | refine op_y (y_flda Pool2.fo_471_3 rfl) rfl ?_
  apply op_st1e Pool2.sz_4 rfl rfl rfl
  ·exact rm
  ·exact flat_lt Pc.cs6 (j := 5) r s1 (by decide)
  ·exact flat_set Pc.cs6 (j := 5) (e' := ⟨x, -1, true, false⟩) r s1 (by decide) rfl
  refine op_nil ?_
  refine ent_then ?_
  refine cd_seq ?_
  refine cd_region [0, 0, 0] ?_
  refine op_y (y_move rfl) rfl ?_
  refine op_y (y_assign rfl) rfl ?_
  refine op_y (y_assign rfl) rfl ?_
  refine op_nil ?_
  refine ent_then ?_
  refine cd_ret ?_
  refine ent_ret2 rfl rfl rfl ⟨_, ⟨rfl, rfl⟩, fun w h => ?_⟩
  simp only [List.set_set] at h
  refine poolC_shut1 (m := { m with cells := m.cells.set i ⟨x, -1, true, false⟩, ends := m.ends.set q ⟨nx, t⟩ }) (b := b) (b2 := b2) (r := r) (cap := cap) ?_ ?_
  ·rw [← hb2, List.length_append, List.length_append, flat_length Pc.cs6, flat_length Pc.cs6, List.length_set]
  ·simp only [List.length_set]
   apply Sat.only (h := h)
   exact sx

theorem pGive_ct (c : Cx) (p room : Nat) (m : PM) (i k : Nat) (x : Pk) (nx : Int) (hi : m.cells[i]? = some ⟨x, nx, true, false⟩) (hk : m.n = k + 1) (hr : k < 100000) (hl : m.cells.length ≤ 100000) : Ct Tryz.prog 294 #[.pointer (some ⟨p, 0, none⟩), .int .i64 i] c [poolC p room m]
 fun v L => v = .tuple #[.agg (Pk.cs x).toArray, .int .i64 0] ∧ L = [poolC p room { m with cells := m.cells.set i ⟨⟨0, 0, 0⟩, m.free, false, false⟩, free := i, n := k }] := by
 have hi' := lt_of_get hi
 refine ct_fn (args := [.pointer (some ⟨p, 0, none⟩), .int .i64 i]) [(0, .pointer (some ⟨p, 0, none⟩)), (1, .int .i64 i)] Tryz.func294 rfl Tryz.ntmps294 rfl ⟨rfl, rfl, trivial⟩ ?_
 refine cd_seq ?_
 refine cd_region [2, 0] ?_
 refine op_alloc Pool2.ze_62 rfl fun b4 => ?_
 refine op_y (y_assign rfl) rfl ?_
 refine op_nil ?_
 refine ent_then ?_
 refine cd_seq ?_
 refine cd_region [2] ?_
 refine op_alloc Pool2.ze_62 rfl fun b6 => ?_
 refine op_nil ?_
 refine ent_then ?_
 refine cd_seq ?_
 refine cd_block ?_
 refine cd_seq ?_
 refine cd_region [0, 0, 0] ?_
 refine op_y (y_move rfl) rfl ?_
 first | refine op_y (y_peq (r := false) Pool2.un_357 rfl rfl) rfl ?_ | refine op_y (y_peq (r := true) Pool2.un_357 rfl rfl) rfl ?_ | refine op_y (y_peq Pool2.un_357 rfl rfl) rfl ?_
 refine op_y (y_assign rfl) rfl ?_
 refine op_nil ?_
 refine ent_then ?_
 refine cd_iff rfl ?_
 refine cd_seq ?_
 refine cd_region [0, 0, 2, 0, 0] ?_
 refine op_y (y_move rfl) rfl ?_
 refine op_y (y_move rfl) rfl ?_
 apply op_c Pool2.ca_302 rfl rfl (fun e he_ => pTaken_ct e p room m i _ hi)
 ·exact sx
 rintro _ _ ⟨rfl, rfl⟩ G_ hG_
 simp only [zn] at hG_; subst hG_
 first | refine op_y (y_not (b := true) (r := false) rfl rfl) rfl ?_ | refine op_y (y_not (b := false) (r := true) rfl rfl) rfl ?_ | refine op_y (y_not rfl rfl) rfl ?_
 refine op_y (y_assign rfl) rfl ?_
 refine op_nil ?_
 refine ent_then ?_
 refine cd_iff rfl ?_
 apply cd_openR (A := poolC p room m)
 ·exact rm
 ·exact poolC_open1 hi
 rintro ⟨b, r, cap, b2⟩ hb2
 simp only [hk] at hb2 ⊢
 refine cd_seq ?_
 refine cd_region [0, 0, 0, 1, 0, 0, 0, 1, 0] ?_
 refine op_y (y_move rfl) rfl ?_
 first | refine op_y (y_nil rfl) rfl ?_ | refine op_y (y_nili rfl) rfl ?_ | refine op_y (y_nilf rfl) rfl ?_
 first | refine op_y (y_fld0 Pool2.fo_409_0 rfl) rfl ?_ | refine op_y (y_flda Pool2.fo_409_0 rfl) rfl ?_
 apply op_ld Pool2.sc_407 rfl rfl
 ·exact rm
 ·rfl
 refine op_y (y_move rfl) rfl ?_
 first | refine op_y (y_ix0 Pool2.sl_407 rfl rfl rfl (by omega)) rfl ?_ | refine op_y (y_ix0 Pool2.sl_407 rfl rfl (Int.toNat_of_nonneg (by omega)).symm (by omega)) rfl ?_ | refine op_y (y_ix Pool2.sl_407 rfl rfl rfl (by omega)) rfl ?_ | refine op_y (y_ix Pool2.sl_407 rfl rfl (Int.toNat_of_nonneg (by omega)).symm (by omega)) rfl ?_ | refine op_y (y_ixa Pool2.sl_407 rfl rfl rfl (by omega)) rfl ?_ | refine op_y (y_ixa Pool2.sl_407 rfl rfl (Int.toNat_of_nonneg (by omega)).symm (by omega)) rfl ?_
 first | refine op_y (y_fld Pool2.fo_471_3 rfl) rfl ?_ | refine op_y (y_flda Pool2.fo_471_3 rfl) rfl ?_
 apply op_ld Pool2.sc_4 rfl rfl
 ·exact rm
 ·exact flat_get Pc.cs6 (j := 5) r hi (by decide) rfl
 refine op_y (y_assign rfl) rfl ?_
 refine op_nil ?_
 refine ent_then ?_
 refine cd_iff rfl ?_
 refine cd_skip ?_
 refine ent_block ?_
 refine ent_then ?_
 refine cd_seq ?_
 refine cd_region [0, 0, 0, 1, 0, 0, 0, 1, 2, 2] ?_
 refine op_y (y_move rfl) rfl ?_
 first | refine op_y (y_nil rfl) rfl ?_ | refine op_y (y_nili rfl) rfl ?_ | refine op_y (y_nilf rfl) rfl ?_
 first | refine op_y (y_fld0 Pool2.fo_409_0 rfl) rfl ?_ | refine op_y (y_flda Pool2.fo_409_0 rfl) rfl ?_
 apply op_ld Pool2.sc_407 rfl rfl
 ·exact rm
 ·rfl
 refine op_y (y_move rfl) rfl ?_
 first | refine op_y (y_ix0 Pool2.sl_407 rfl rfl rfl (by omega)) rfl ?_ | refine op_y (y_ix0 Pool2.sl_407 rfl rfl (Int.toNat_of_nonneg (by omega)).symm (by omega)) rfl ?_ | refine op_y (y_ix Pool2.sl_407 rfl rfl rfl (by omega)) rfl ?_ | refine op_y (y_ix Pool2.sl_407 rfl rfl (Int.toNat_of_nonneg (by omega)).symm (by omega)) rfl ?_ | refine op_y (y_ixa Pool2.sl_407 rfl rfl rfl (by omega)) rfl ?_ | refine op_y (y_ixa Pool2.sl_407 rfl rfl (Int.toNat_of_nonneg (by omega)).symm (by omega)) rfl ?_
 first | refine op_y (y_fld0 Pool2.fo_471_0 rfl) rfl ?_ | refine op_y (y_flda Pool2.fo_471_0 rfl) rfl ?_
 apply op_lda Pool2.ag_62 rfl rfl
 ·exact rm
 ·exact (show _ = Pk.cs x from flat_take' Pc.cs6 (o := 0) (k := 3) r hi (by decide))
 ·first | rfl | simp [*]
 refine op_alloc Pool2.ze_62 rfl fun b7 => ?_
 apply op_sta Pool2.sz_62 rfl rfl rfl rfl
 ·exact rm
 ·simp
 ·(first | ((try simp only [zz, splice, Nat.reduceAdd, Nat.zero_mul, Pk.cs, Pc.cs, Eh.cs]) <;> rfl) | rfl)
 refine op_nil ?_
 refine ent_then ?_
 refine cd_seq ?_
 refine cd_draw ([]) [0, 1, 2, 3, 4, 5, 6, 7, 8, 9, 10, 11] [0, 0, 0, 1, 0, 0, 0, 0, 1, 0, 0, 2] mixed_ (by kernel_rfl) ?_
 refine op_y (y_move rfl) rfl ?_
 first | refine op_y (y_nil rfl) rfl ?_ | refine op_y (y_nili rfl) rfl ?_ | refine op_y (y_nilf rfl) rfl ?_
 first | refine op_y (y_fld0 Pool2.fo_409_0 rfl) rfl ?_ | refine op_y (y_flda Pool2.fo_409_0 rfl) rfl ?_
 apply op_ld Pool2.sc_407 rfl rfl
 ·exact rm
 ·rfl
 refine op_y (y_move rfl) rfl ?_
 refine op_y (y_move rfl) rfl ?_
 first | refine op_y (y_nil rfl) rfl ?_ | refine op_y (y_nili rfl) rfl ?_ | refine op_y (y_nilf rfl) rfl ?_
 first | refine op_y (y_fld Pool2.fo_409_3 rfl) rfl ?_ | refine op_y (y_flda Pool2.fo_409_3 rfl) rfl ?_
 apply op_ld Pool2.sc_21 rfl rfl
 ·exact rm
 ·rfl
 apply op_build Pool2.pl_471 Pool2.ze_471 rfl rfl
 ·(first | ((try simp [fillL, splice, Value.cells, Pk.cs, Pc.cs, Eh.cs]) <;> rfl) | rfl)
 first | refine op_y (y_ix0 Pool2.sl_407 rfl rfl rfl (by omega)) rfl ?_ | refine op_y (y_ix0 Pool2.sl_407 rfl rfl (Int.toNat_of_nonneg (by omega)).symm (by omega)) rfl ?_ | refine op_y (y_ix Pool2.sl_407 rfl rfl rfl (by omega)) rfl ?_ | refine op_y (y_ix Pool2.sl_407 rfl rfl (Int.toNat_of_nonneg (by omega)).symm (by omega)) rfl ?_ | refine op_y (y_ixa Pool2.sl_407 rfl rfl rfl (by omega)) rfl ?_ | refine op_y (y_ixa Pool2.sl_407 rfl rfl (Int.toNat_of_nonneg (by omega)).symm (by omega)) rfl ?_
 apply op_sta Pool2.sz_471 rfl rfl rfl rfl
 ·exact rm
 ·exact flat_le Pc.cs6 r hi'
 ·exact flat_splice Pc.cs6 (⟨⟨0, 0, 0⟩, m.free, false, false⟩ : Pc) r hi'
 refine op_nil ?_
 refine ent_then ?_
 refine cd_seq ?_
 refine cd_region [0, 0, 0, 0, 0, 2] ?_
 refine op_y (y_move rfl) rfl ?_
 refine op_y (y_move rfl) rfl ?_
 first | refine op_y (y_conv Pool2.un_3 Pool2.un_21 rfl (wi32 (by omega) (by omega))) rfl ?_ | refine op_y (y_conv Pool2.un_3 Pool2.un_21 rfl rfl) rfl ?_
 first | refine op_y (y_nil rfl) rfl ?_ | refine op_y (y_nili rfl) rfl ?_ | refine op_y (y_nilf rfl) rfl ?_
 first | refine op_y (y_fld Pool2.fo_409_3 rfl) rfl ?_ | refine op_y (y_flda Pool2.fo_409_3 rfl) rfl ?_
 apply op_st1 Pool2.sz_21 rfl rfl rfl
 ·exact rm
 ·rfl
 ·(first | ((try simp only [zz, splice, Nat.reduceAdd, Nat.zero_mul, Pk.cs, Pc.cs, Eh.cs]) <;> rfl) | rfl)
 refine op_nil ?_
 refine ent_then ?_
 refine cd_seq ?_
 refine cd_region [0, 0, 0, 1, 0, 0, 0, 2] ?_
 refine op_y (y_move rfl) rfl ?_
 first | refine op_y (y_nil rfl) rfl ?_ | refine op_y (y_nili rfl) rfl ?_ | refine op_y (y_nilf rfl) rfl ?_
 first | refine op_y (y_fld Pool2.fo_409_4 rfl) rfl ?_ | refine op_y (y_flda Pool2.fo_409_4 rfl) rfl ?_
 apply op_ld Pool2.sc_3 rfl rfl
 ·exact rm
 ·rfl
 first | refine op_y (y_sub rfl rfl (wi64 (by omega) (by omega))) rfl ?_ | refine op_y (y_sub rfl rfl rfl) rfl ?_
 first | refine op_y (y_nil rfl) rfl ?_ | refine op_y (y_nili rfl) rfl ?_ | refine op_y (y_nilf rfl) rfl ?_
 first | refine op_y (y_fld Pool2.fo_409_4 rfl) rfl ?_ | refine op_y (y_flda Pool2.fo_409_4 rfl) rfl ?_
 apply op_st1 Pool2.sz_3 rfl rfl rfl
 ·exact rm
 ·rfl
 ·(first | ((try simp only [zz, splice, Nat.reduceAdd, Nat.zero_mul, Pk.cs, Pc.cs, Eh.cs]) <;> rfl) | rfl)
 refine op_nil ?_
 refine ent_then ?_
 refine cd_seq ?_
 refine cd_region [1, 2, 0] ?_
 apply op_lda Pool2.ag_62 rfl rfl
 ·exact rm
 ·(first | ((try simp only [zz, splice, Nat.reduceAdd, Nat.zero_mul, Pk.cs, Pc.cs, Eh.cs]) <;> rfl) | rfl)
 ·rfl
 apply op_sta Pool2.sz_62 rfl rfl rfl rfl
 ·exact rm
 ·simp
 ·(first | ((try simp only [zz, splice, Nat.reduceAdd, Nat.zero_mul, Pk.cs, Pc.cs, Eh.cs]) <;> rfl) | rfl)
 refine op_y (y_assign rfl) rfl ?_
 refine op_nil ?_
 refine ent_then ?_
 refine cd_ret ?_
 refine ent_rets (rs := [_, _]) (vs := [.agg (Pk.cs x).toArray, .int .i64 0]) (.inl rfl) rfl ⟨⟨_, rfl, .inr ⟨_, 3, rfl, rfl, rds_all (by exact rm), rfl⟩⟩, rfl, trivial⟩ ⟨_, ⟨rfl, rfl⟩, fun w h => ?_⟩
 refine poolC_shut1 (m := { m with cells := m.cells.set i ⟨⟨0, 0, 0⟩, m.free, false, false⟩, free := i, n := k }) (b := b) (b2 := b2) (r := r) (cap := cap) ?_ ?_
 ·rw [← hb2, List.length_append, List.length_append, flat_length Pc.cs6, flat_length Pc.cs6, List.length_set]
 ·simp only [List.length_set]
  rw [show ((k + 1 : Nat) : Int) - 1 = (k : Int) by omega] at h
  apply Sat.only (h := h)
  exact sx
end Go.Proofs.YtfkadaodnaaceaaGreatDoor
/- Plain law: cells linked into queues and into what is free. No program in sight. -/
namespace Go.Proofs.YtfkadaodnaaceaaGreatDoor
open Go Go.SL
def qlink (cs : List Pc) : Int → List (Nat × Pk) → Prop
 | i, [] => i = -1
 | i, (h, x) :: t => i = h ∧ ∃ nx, cs[h]? = some ⟨x, nx, true, true⟩ ∧ qlink cs nx t
def flink (cs : List Pc) : Int → List Nat → Prop
 | i, [] => i = -1
 | i, h :: t => i = h ∧ ∃ x nx qd, cs[h]? = some ⟨x, nx, false, qd⟩ ∧ flink cs nx t
theorem qlink_set {cs : List Pc} {h : Nat} {e : Pc} : ∀ {l : List (Nat × Pk)} {i : Int}, h ∉ l.map (·.1) → qlink cs i l → qlink (cs.set h e) i l
 | [], _, _, hq => hq
 | (k, x) :: t, i, hn, ⟨h1, nx, h2, h3⟩ => by
  simp only [List.map_cons, List.mem_cons, not_or] at hn
  exact ⟨h1, nx, by rw [List.getElem?_set_ne hn.1]; exact h2, qlink_set hn.2 h3⟩
theorem flink_set {cs : List Pc} {h : Nat} {e : Pc} : ∀ {l : List Nat} {i : Int}, h ∉ l → flink cs i l → flink (cs.set h e) i l
 | [], _, _, hq => hq
 | k :: t, i, hn, ⟨h1, x, nx, qd, h2, h3⟩ => by
  simp only [List.mem_cons, not_or] at hn
  exact ⟨h1, x, nx, qd, by rw [List.getElem?_set_ne hn.1]; exact h2, flink_set hn.2 h3⟩
theorem get_snoc {cs : List Pc} {e f : Pc} {h : Nat} (hg : cs[h]? = some e) : (cs ++ [f])[h]? = some e := by
 rw [List.getElem?_append_left (List.getElem?_eq_some_iff.1 hg).1]; exact hg
theorem qlink_app {cs : List Pc} {e : Pc} : ∀ {l : List (Nat × Pk)} {i : Int}, qlink cs i l → qlink (cs ++ [e]) i l
 | [], _, hq => hq
 | (k, x) :: t, i, ⟨h1, nx, h2, h3⟩ => ⟨h1, nx, get_snoc h2, qlink_app h3⟩
theorem flink_app {cs : List Pc} {e : Pc} : ∀ {l : List Nat} {i : Int}, flink cs i l → flink (cs ++ [e]) i l
 | [], _, hq => hq
 | k :: t, i, ⟨h1, x, nx, qd, h2, h3⟩ => ⟨h1, x, nx, qd, get_snoc h2, flink_app h3⟩
theorem qlink_mem {cs : List Pc} : ∀ {l : List (Nat × Pk)} {i : Int} {h : Nat}, qlink cs i l → h ∈ l.map (·.1) → ∃ x nx, cs[h]? = some ⟨x, nx, true, true⟩
 | [], _, _, _, hm => by cases hm
 | (k, x) :: t, i, h, ⟨h1, nx, h2, h3⟩, hm => by
  simp only [List.map_cons, List.mem_cons] at hm
  rcases hm with rfl | hm
  ·exact ⟨x, nx, h2⟩
  ·exact qlink_mem h3 hm
theorem flink_mem {cs : List Pc} : ∀ {l : List Nat} {i : Int} {h : Nat}, flink cs i l → h ∈ l → ∃ x nx qd, cs[h]? = some ⟨x, nx, false, qd⟩
 | [], _, _, _, hm => by cases hm
 | k :: t, i, h, ⟨h1, x, nx, qd, h2, h3⟩, hm => by
  simp only [List.mem_cons] at hm
  rcases hm with rfl | hm
  ·exact ⟨x, nx, qd, h2⟩
  ·exact flink_mem h3 hm
/-- Behind the last one. -/
theorem qlink_snoc {cs : List Pc} {h t : Nat} {x y : Pk} : ∀ {l : List (Nat × Pk)} {i : Int}, qlink cs i l → (l.map (·.1)).Nodup → h ∉ l.map (·.1) → h < cs.length → l.getLast? = some (t, y) →
 qlink ((cs.set h ⟨x, -1, true, true⟩).set t ⟨y, h, true, true⟩) i (l ++ [(h, x)])
 | [], _, _, _, _, _, hl => by cases hl
 | [(k, z)], i, ⟨h1, nx, h2, h3⟩, _, hn, hh, hl => by
  simp only [List.getLast?_singleton, Option.some.injEq, Prod.mk.injEq] at hl
  obtain ⟨rfl, rfl⟩ := hl
  have hk : k < cs.length := (List.getElem?_eq_some_iff.1 h2).1
  have hne : h ≠ k := by simpa using hn
  refine ⟨h1, h, by simp [hk], rfl, -1, ?_, rfl⟩
  rw [List.getElem?_set_ne (Ne.symm hne)]
  simp [hh]
 | (k, z) :: (k2, z2) :: r, i, ⟨h1, nx, h2, h3⟩, hd, hn, hh, hl => by
  have hl' : ((k2, z2) :: r).getLast? = some (t, y) := by simpa [List.getLast?_cons_cons] using hl
  simp only [List.map_cons, List.mem_cons, not_or] at hn
  obtain ⟨hd1, hd2⟩ := List.nodup_cons.1 (show (k :: (((k2, z2) :: r).map (·.1))).Nodup from hd)
  have ht : t ∈ ((k2, z2) :: r).map (·.1) := List.mem_map.2 ⟨(t, y), List.mem_of_getLast? hl', rfl⟩
  have htk : t ≠ k := fun e => hd1 (e ▸ ht)
  refine ⟨h1, nx, ?_, ?_⟩
  ·rw [List.getElem?_set_ne htk, List.getElem?_set_ne hn.1]; exact h2
  ·exact qlink_snoc h3 hd2 (by simpa using hn.2) hh hl'

/-- Queues Q (nq of them), what is free, and what is taken but in no queue. -/
structure PInv (nq : Nat) (m : PM) (F : List Nat) (Q : Nat → List (Nat × Pk)) (Lo : Option (Nat × Pk)) : Prop where
 ne : m.ends.length = nq
 fl : flink m.cells m.free F
 fd : F.Nodup
 q : ∀ q, q < nq → ∃ e, m.ends[q]? = some e ∧ qlink m.cells e.head (Q q) ∧ ∀ z, (Q q).getLast? = some z → e.tail = z.1
 qd : ∀ q, q < nq → ((Q q).map (·.1)).Nodup
 qq : ∀ q q', q < nq → q' < nq → q ≠ q' → ∀ h ∈ (Q q).map (·.1), h ∉ (Q q').map (·.1)
 lo : ∀ h x, Lo = some (h, x) → ∃ nx, m.cells[h]? = some ⟨x, nx, true, false⟩
 cnt : m.cells.length = F.length + m.n
 le : m.cells.length ≤ 4096
def upd {α : Type} (Q : Nat → α) (q : Nat) (v : α) : Nat → α := fun k => if k = q then v else Q k
theorem upd_self {α : Type} (Q : Nat → α) (q : Nat) (v : α) : upd Q q v q = v := by simp [upd]
theorem upd_ne {α : Type} (Q : Nat → α) {q k : Nat} (v : α) (h : k ≠ q) : upd Q q v k = Q k := by simp [upd, h]

theorem PInv.takeNew {nq : Nat} {m : PM} {F : List Nat} {Q : Nat → List (Nat × Pk)} (h : PInv nq m F Q none) (x : Pk) (hf : m.free = -1) (hn : m.n < 4096) :
 PInv nq { m with cells := m.cells ++ [⟨x, -1, true, false⟩], n := m.n + 1 } F Q (some (m.cells.length, x)) where
 ne := h.ne
 fl := flink_app h.fl
 fd := h.fd
 q := fun q hq => let ⟨e, h1, h2, h3⟩ := h.q q hq; ⟨e, h1, qlink_app h2, h3⟩
 qd := h.qd
 qq := h.qq
 lo := fun h' x' e => by
  simp only [Option.some.injEq, Prod.mk.injEq] at e
  obtain ⟨rfl, rfl⟩ := e
  exact ⟨-1, by simp⟩
 cnt := by simp [h.cnt]; omega
 le := by
  have : F = [] := by
   cases F with
   | nil => rfl
   | cons f F => have := h.fl.1; rw [hf] at this; omega
  have := h.cnt
  simp_all
  omega
theorem PInv.takeOld {nq f : Nat} {m : PM} {F : List Nat} {Q : Nat → List (Nat × Pk)} (h : PInv nq m (f :: F) Q none) (x : Pk) {e : Pc} (he : m.cells[f]? = some e) :
 PInv nq { m with cells := m.cells.set f ⟨x, -1, true, false⟩, free := e.next, n := m.n + 1 } F Q (some (f, x)) := by
 obtain ⟨hfd, hfd2⟩ := List.nodup_cons.1 h.fd
 obtain ⟨h1, x0, nx, qd, h2, h3⟩ := h.fl
 have hlt : f < m.cells.length := (List.getElem?_eq_some_iff.1 he).1
 rw [he] at h2
 injection h2 with h2
 subst h2
 refine ⟨h.ne, flink_set hfd h3, hfd2, fun q hq => ?_, h.qd, h.qq, fun h' x' e => ?_, ?_, ?_⟩
 ·obtain ⟨e, g1, g2, g3⟩ := h.q q hq
  refine ⟨e, g1, qlink_set (fun hm => ?_) g2, g3⟩
  obtain ⟨_, _, hc⟩ := qlink_mem g2 hm
  rw [he] at hc
  cases hc
 ·simp only [Option.some.injEq, Prod.mk.injEq] at e
  obtain ⟨rfl, rfl⟩ := e
  exact ⟨-1, by simp [hlt]⟩
 ·have := h.cnt
  simp at this ⊢; omega
 ·simpa using h.le
theorem PInv.append {nq q i : Nat} {m m' : PM} {F : List Nat} {Q : Nat → List (Nat × Pk)} {x : Pk} (h : PInv nq m F Q (some (i, x))) (hq : q < nq)
 (hm : (∃ t, Q q = [] ∧ m.ends[q]? = some ⟨-1, t⟩ ∧ m' = { m with cells := m.cells.set i ⟨x, -1, true, true⟩, ends := m.ends.set q ⟨i, i⟩ }) ∨
   (∃ hd t y, (Q q).getLast? = some (t, y) ∧ m.ends[q]? = some ⟨hd, t⟩ ∧ m' = { m with cells := (m.cells.set i ⟨x, -1, true, true⟩).set t ⟨y, i, true, true⟩, ends := m.ends.set q ⟨hd, i⟩ })) :
 PInv nq m' F (upd Q q (Q q ++ [(i, x)])) none := by
 obtain ⟨nx, hi⟩ := h.lo i x rfl
 have hlt : i < m.cells.length := (List.getElem?_eq_some_iff.1 hi).1
 have hqe : q < m.ends.length := by rw [h.ne]; exact hq
 have hiQ : ∀ k, k < nq → i ∉ (Q k).map (·.1) := fun k hk hm => by
  obtain ⟨e, g1, g2, g3⟩ := h.q k hk
  obtain ⟨_, _, hc⟩ := qlink_mem g2 hm
  rw [hi] at hc; cases hc
 have hiF : i ∉ F := fun hm => by
  obtain ⟨_, _, _, hc⟩ := flink_mem h.fl hm
  rw [hi] at hc; cases hc
 have hqd : ∀ k, k < nq → ((upd Q q (Q q ++ [(i, x)]) k).map (·.1)).Nodup := fun k hk => by
  by_cases e : k = q
  ·subst e
   rw [upd_self, List.map_append]
   refine List.nodup_append.2 ⟨h.qd k hk, by simp, fun a ha b hb => ?_⟩
   simp at hb; subst hb
   exact fun e => hiQ k hk (e ▸ ha)
  ·rw [upd_ne _ _ e]; exact h.qd k hk
 have hqq : ∀ k k', k < nq → k' < nq → k ≠ k' → ∀ a ∈ (upd Q q (Q q ++ [(i, x)]) k).map (·.1), a ∉ (upd Q q (Q q ++ [(i, x)]) k').map (·.1) := fun k k' hk hk' hne a ha hb => by
  by_cases e : k = q
  ·subst e
   rw [upd_ne _ _ (Ne.symm hne)] at hb
   rw [upd_self, List.map_append, List.mem_append] at ha
   rcases ha with ha | ha
   ·exact h.qq k k' hk hk' hne a ha hb
   ·simp at ha; subst ha; exact hiQ k' hk' hb
  ·rw [upd_ne _ _ e] at ha
   by_cases e' : k' = q
   ·subst e'
    rw [upd_self, List.map_append, List.mem_append] at hb
    rcases hb with hb | hb
    ·exact h.qq k k' hk hk' hne a ha hb
    ·simp at hb; subst hb; exact hiQ k hk ha
   ·rw [upd_ne _ _ e'] at hb; exact h.qq k k' hk hk' hne a ha hb
 rcases hm with ⟨t, hQ, he, rfl⟩ | ⟨hd, t, y, hQ, he, rfl⟩
 ·refine ⟨by simp [h.ne], flink_set hiF h.fl, h.fd, fun k hk => ?_, hqd, hqq, (fun _ _ e => by cases e), by simp [h.cnt], by simpa using h.le⟩
  by_cases e : k = q
  ·subst e
   refine ⟨⟨i, i⟩, by simp [hqe], ?_, fun z hz => ?_⟩
   ·rw [upd_self, hQ]
    exact ⟨rfl, -1, by simp [hlt], rfl⟩
   ·rw [upd_self, hQ] at hz
    simp at hz; subst hz; rfl
  ·obtain ⟨e', g1, g2, g3⟩ := h.q k hk
   rw [upd_ne _ _ e]
   exact ⟨e', by rw [List.getElem?_set_ne (Ne.symm e)]; exact g1, qlink_set (hiQ k hk) g2, g3⟩
 ·have htm : t ∈ (Q q).map (·.1) := List.mem_map.2 ⟨(t, y), List.mem_of_getLast? hQ, rfl⟩
  obtain ⟨e0, g1, g2, g3⟩ := h.q q hq
  rw [he] at g1
  injection g1 with g1
  subst g1
  have htF : t ∉ F := fun hm => by
   obtain ⟨_, _, hc⟩ := qlink_mem g2 htm
   obtain ⟨_, _, _, hc'⟩ := flink_mem h.fl hm
   rw [hc] at hc'; cases hc'
  refine ⟨by simp [h.ne], flink_set htF (flink_set hiF h.fl), h.fd, fun k hk => ?_, hqd, hqq, (fun _ _ e => by cases e), by simp [h.cnt], by simpa using h.le⟩
  by_cases e : k = q
  ·subst e
   refine ⟨⟨hd, i⟩, by simp [hqe], ?_, fun z hz => ?_⟩
   ·rw [upd_self]
    exact qlink_snoc g2 (h.qd k hk) (hiQ k hk) hlt hQ
   ·rw [upd_self] at hz
    simp at hz; subst hz; rfl
  ·obtain ⟨e', k1, k2, k3⟩ := h.q k hk
   rw [upd_ne _ _ e]
   exact ⟨e', by rw [List.getElem?_set_ne (Ne.symm e)]; exact k1, qlink_set (h.qq q k hq hk (Ne.symm e) t htm) (qlink_set (hiQ k hk) k2), k3⟩
theorem PInv.pop {nq q i : Nat} {m : PM} {F : List Nat} {Q : Nat → List (Nat × Pk)} {x : Pk} {r : List (Nat × Pk)} {nx t : Int} (h : PInv nq m F Q none) (hq : q < nq) (hQ : Q q = (i, x) :: r)
 (he : m.ends[q]? = some ⟨i, t⟩) (hi : m.cells[i]? = some ⟨x, nx, true, true⟩) :
 PInv nq { m with cells := m.cells.set i ⟨x, -1, true, false⟩, ends := m.ends.set q ⟨nx, if nx = -1 then -1 else t⟩ } F (upd Q q r) (some (i, x)) := by
 have hlt : i < m.cells.length := (List.getElem?_eq_some_iff.1 hi).1
 have hqe : q < m.ends.length := by rw [h.ne]; exact hq
 have hiF : i ∉ F := fun hm => by
  obtain ⟨_, _, _, hc⟩ := flink_mem h.fl hm
  rw [hi] at hc; cases hc
 have him : i ∈ (Q q).map (·.1) := by rw [hQ]; simp
 have hnd := h.qd q hq
 rw [hQ, List.map_cons, List.nodup_cons] at hnd
 have hsub : ∀ k, k < nq → ∀ a ∈ (upd Q q r k).map (·.1), a ∈ (Q k).map (·.1) := fun k hk a ha => by
  by_cases e : k = q
  ·subst e
   rw [upd_self] at ha
   rw [hQ, List.map_cons]; exact List.mem_cons_of_mem _ ha
  ·rw [upd_ne _ _ e] at ha; exact ha
 refine ⟨by simp [h.ne], flink_set hiF h.fl, h.fd, fun k hk => ?_, fun k hk => ?_, fun k k' hk hk' hne a ha hb => h.qq k k' hk hk' hne a (hsub k hk a ha) (hsub k' hk' a hb), fun h' x' e => ?_, by simp [h.cnt], by simpa using h.le⟩
 ·obtain ⟨e', k1, k2, k3⟩ := h.q k hk
  by_cases e : k = q
  ·subst e
   rw [he] at k1
   injection k1 with k1
   subst k1
   rw [hQ] at k2 k3
   obtain ⟨_, nx', c1, c2⟩ := k2
   rw [hi] at c1
   simp only [Option.some.injEq, Pc.mk.injEq, true_and, and_true] at c1
   subst c1
   refine ⟨_, by simp only []; rw [List.getElem?_set_self hqe], ?_, fun z hz => ?_⟩
   ·rw [upd_self]; exact qlink_set hnd.1 c2
   ·rw [upd_self] at hz
    cases r with
    | nil => cases hz
    | cons z0 r =>
     obtain ⟨z1, z2⟩ := z0
     have hne : nx ≠ -1 := by have := c2.1; omega
     simp only [hne, if_false]
     exact k3 z (by rw [List.getLast?_cons_cons]; exact hz)
  ·rw [upd_ne _ _ e]
   exact ⟨e', by rw [List.getElem?_set_ne (Ne.symm e)]; exact k1, qlink_set (h.qq q k hq hk (Ne.symm e) i him) k2, k3⟩
 ·by_cases e : k = q
  ·subst e; rw [upd_self]; exact hnd.2
  ·rw [upd_ne _ _ e]; exact h.qd k hk
 ·simp only [Option.some.injEq, Prod.mk.injEq] at e
  obtain ⟨rfl, rfl⟩ := e
  exact ⟨-1, by simp [hlt]⟩
theorem PInv.give {nq i k : Nat} {m : PM} {F : List Nat} {Q : Nat → List (Nat × Pk)} {x : Pk} (h : PInv nq m F Q (some (i, x))) (hk : m.n = k + 1) :
 PInv nq { m with cells := m.cells.set i ⟨⟨0, 0, 0⟩, m.free, false, false⟩, free := i, n := k } (i :: F) Q none := by
 obtain ⟨nx, hi⟩ := h.lo i x rfl
 have hlt : i < m.cells.length := (List.getElem?_eq_some_iff.1 hi).1
 have hiF : i ∉ F := fun hm => by
  obtain ⟨_, _, _, hc⟩ := flink_mem h.fl hm
  rw [hi] at hc; cases hc
 refine ⟨h.ne, ⟨rfl, ⟨0, 0, 0⟩, m.free, false, by simp [hlt], flink_set hiF h.fl⟩, List.nodup_cons.2 ⟨hiF, h.fd⟩, fun k hk => ?_, h.qd, h.qq, (fun _ _ e => by cases e), by have := h.cnt; simp at this ⊢; omega, by simpa using h.le⟩
 obtain ⟨e', k1, k2, k3⟩ := h.q k hk
 refine ⟨e', k1, qlink_set (fun hm => ?_) k2, k3⟩
 obtain ⟨_, _, hc⟩ := qlink_mem k2 hm
 rw [hi] at hc; cases hc
theorem PInv.new (nq : Nat) : PInv nq ⟨[], List.replicate nq ⟨-1, -1⟩, -1, 0⟩ [] (fun _ => []) none :=
 ⟨by simp, rfl, List.nodup_nil, fun q hq => ⟨⟨-1, -1⟩, by simp [hq], rfl, fun z hz => by cases hz⟩, fun _ _ => List.nodup_nil, (fun _ _ _ _ _ _ ha => by cases ha), (fun _ _ e => by cases e), rfl, Nat.zero_le _⟩
end Go.Proofs.YtfkadaodnaaceaaGreatDoor
/- The pool's functions, of what its queues hold. -/
namespace Go.Proofs.YtfkadaodnaaceaaGreatDoor
open Go Go.SL
set_option maxHeartbeats 1000000
theorem qTake_ct (c : Cx) (p room nq : Nat) (m : PM) (F : List Nat) (Q : Nat → List (Nat × Pk)) (x : Pk) (h : PInv nq m F Q none) (hn : m.n < room) (hr : room ≤ 4096) : Ct Tryz.prog 304 #[.pointer (some ⟨p, 0, none⟩), .agg (Pk.cs x).toArray] c [poolC p room m]
 fun v L => ∃ (i : Nat) (m' : PM) (F' : List Nat), v = .tuple #[.int .i64 i, .bool true] ∧ L = [poolC p room m'] ∧ PInv nq m' F' Q (some (i, x)) ∧ m'.n = m.n + 1 := by
 have hl := h.le
 cases F with
 | nil =>
  have hf : m.free = -1 := h.fl
  refine (pTakeNew_ct c p room m x hf hn (by omega) (by omega)).mono ?_
  rintro v L ⟨rfl, rfl⟩
  exact ⟨_, _, _, rfl, rfl, h.takeNew x hf (by omega), rfl⟩
 | cons f F =>
  obtain ⟨hf, x0, nx, qd, he, _⟩ := h.fl
  refine (pTakeOld_ct c p room m x f _ hf he hn (by omega) (by omega)).mono ?_
  rintro v L ⟨rfl, rfl⟩
  exact ⟨_, _, _, rfl, rfl, h.takeOld x he, rfl⟩
theorem qAppend_ct (c : Cx) (p room nq q i : Nat) (m : PM) (F : List Nat) (Q : Nat → List (Nat × Pk)) (x : Pk) (h : PInv nq m F Q (some (i, x))) (hq : q < nq) : Ct Tryz.prog 305 #[.pointer (some ⟨p, 0, none⟩), .int .i64 q, .int .i64 i] c [poolC p room m]
 fun v L => ∃ m' : PM, v = .int .i64 0 ∧ L = [poolC p room m'] ∧ PInv nq m' F (upd Q q (Q q ++ [(i, x)])) none ∧ m'.n = m.n := by
 have hl := h.le
 obtain ⟨nx, hi⟩ := h.lo i x rfl
 obtain ⟨⟨hd, t⟩, he, hql, htl⟩ := h.q q hq
 rcases List.eq_nil_or_concat (Q q) with hQ | ⟨l0, ⟨ti, y⟩, hQ⟩
 ·rw [hQ] at hql
  have hhd : hd = -1 := hql
  subst hhd
  refine (pAppendE_ct c p room m q i x nx t he hi (by omega)).mono ?_
  rintro v L ⟨rfl, rfl⟩
  exact ⟨_, rfl, rfl, h.append hq (.inl ⟨t, hQ, he, rfl⟩), rfl⟩
 ·have hlast : (Q q).getLast? = some (ti, y) := by rw [hQ]; simp
  have ht := htl _ hlast
  simp only at ht
  subst ht
  have htm : ti ∈ (Q q).map (·.1) := List.mem_map.2 ⟨(ti, y), List.mem_of_getLast? hlast, rfl⟩
  have hc : ∃ ny, m.cells[ti]? = some ⟨y, ny, true, true⟩ := by
   have : ∀ (l : List (Nat × Pk)) (i : Int), qlink m.cells i l → (ti, y) ∈ l → ∃ ny, m.cells[ti]? = some ⟨y, ny, true, true⟩ := by
    intro l
    induction l with
    | nil => intro i _ hm; cases hm
    | cons a l ih =>
     obtain ⟨a1, a2⟩ := a
     rintro i ⟨_, nx, g1, g2⟩ hm
     rcases List.mem_cons.1 hm with e | hm
     ·injection e with e1 e2; subst e1; subst e2; exact ⟨nx, g1⟩
     ·exact ih _ g2 hm
   exact this _ _ hql (List.mem_of_getLast? hlast)
  obtain ⟨ny, hc⟩ := hc
  have hne : ti ≠ i := fun e => by subst e; rw [hi] at hc; cases hc
  have hhd : hd ≠ -1 := by
   intro e
   subst e
   cases hQ2 : Q q with
   | nil => rw [hQ2] at hlast; cases hlast
   | cons a l => rw [hQ2] at hql; obtain ⟨a1, a2⟩ := a; have h9 : (-1 : Int) = (a1 : Int) := hql.1; omega
  refine (pAppendN_ct c p room m q i ti x y nx ny hd true true hhd he hi hc hne (by omega)).mono ?_
  rintro v L ⟨rfl, rfl⟩
  exact ⟨_, rfl, rfl, h.append hq (.inr ⟨hd, ti, y, hlast, he, rfl⟩), rfl⟩
theorem qHead_ct (c : Cx) (p room nq q : Nat) (m : PM) (F : List Nat) (Q : Nat → List (Nat × Pk)) (Lo : Option (Nat × Pk)) (h : PInv nq m F Q Lo) (hq : q < nq) : Ct Tryz.prog 289 #[.pointer (some ⟨p, 0, none⟩), .int .i64 q] c [poolC p room m]
 fun v L => ((Q q = [] ∧ v = .tuple #[.int .i64 0, .bool false]) ∨ ∃ (i : Nat) (x : Pk) (r : List (Nat × Pk)), Q q = (i, x) :: r ∧ v = .tuple #[.int .i64 i, .bool true]) ∧ L = [poolC p room m] := by
 have hl := h.le
 obtain ⟨⟨hd, t⟩, he, hql, htl⟩ := h.q q hq
 cases hQ : Q q with
 | nil =>
  rw [hQ] at hql
  have hhd : hd = -1 := hql
  subst hhd
  refine (pHead_ct c p room m q _ he (.inl rfl)).mono ?_
  rintro v L ⟨rfl, rfl⟩
  exact ⟨.inl ⟨rfl, rfl⟩, rfl⟩
 | cons a r =>
  obtain ⟨i, x⟩ := a
  rw [hQ] at hql
  obtain ⟨e, nx, hc, _⟩ := hql
  simp only at e
  subst e
  have hi := lt_of_get hc
  refine (pHead_ct c p room m q _ he (.inr ⟨i, rfl, by omega⟩)).mono ?_
  rintro v L ⟨rfl, rfl⟩
  have hnn : ¬ ((i : Int) = -1) := by omega
  exact ⟨.inr ⟨i, x, r, rfl, by simp [hnn]⟩, rfl⟩
theorem qGet_ct (c : Cx) (p room nq q i : Nat) (m : PM) (F : List Nat) (Q : Nat → List (Nat × Pk)) (Lo : Option (Nat × Pk)) (x : Pk) (r : List (Nat × Pk)) (h : PInv nq m F Q Lo) (hq : q < nq) (hQ : Q q = (i, x) :: r) : Ct Tryz.prog 291 #[.pointer (some ⟨p, 0, none⟩), .int .i64 i] c [poolC p room m]
 fun v L => v = .tuple #[.agg (Pk.cs x).toArray, .bool true] ∧ L = [poolC p room m] := by
 obtain ⟨⟨hd, t⟩, he, hql, htl⟩ := h.q q hq
 rw [hQ] at hql
 obtain ⟨e, nx, hc, _⟩ := hql
 exact pGet_ct c p room m i _ hc rfl
theorem qPop_ct (c : Cx) (p room nq q i : Nat) (m : PM) (F : List Nat) (Q : Nat → List (Nat × Pk)) (x : Pk) (r : List (Nat × Pk)) (h : PInv nq m F Q none) (hq : q < nq) (hQ : Q q = (i, x) :: r) : Ct Tryz.prog 293 #[.pointer (some ⟨p, 0, none⟩), .int .i64 q] c [poolC p room m]
 fun v L => ∃ m' : PM, v = .tuple #[.int .i64 i, .bool true] ∧ L = [poolC p room m'] ∧ PInv nq m' F (upd Q q r) (some (i, x)) ∧ m'.n = m.n := by
 have hl := h.le
 obtain ⟨⟨hd, t⟩, he, hql, htl⟩ := h.q q hq
 rw [hQ] at hql
 obtain ⟨e, nx, hc, _⟩ := hql
 simp only at e
 subst e
 refine (pPopN_ct c p room m q i x nx t he hc (by omega)).mono ?_
 rintro v L ⟨rfl, rfl⟩
 exact ⟨_, rfl, rfl, h.pop hq hQ he hc, rfl⟩
theorem qGive_ct (c : Cx) (p room nq i k : Nat) (m : PM) (F : List Nat) (Q : Nat → List (Nat × Pk)) (x : Pk) (h : PInv nq m F Q (some (i, x))) (hk : m.n = k + 1) : Ct Tryz.prog 294 #[.pointer (some ⟨p, 0, none⟩), .int .i64 i] c [poolC p room m]
 fun v L => ∃ (m' : PM) (F' : List Nat), v = .tuple #[.agg (Pk.cs x).toArray, .int .i64 0] ∧ L = [poolC p room m'] ∧ PInv nq m' F' Q none ∧ m'.n = k := by
 have hl := h.le
 have hc := h.cnt
 obtain ⟨nx, hi⟩ := h.lo i x rfl
 refine (pGive_ct c p room m i k x nx hi hk (by omega) (by omega)).mono ?_
 rintro v L ⟨rfl, rfl⟩
 exact ⟨_, _, rfl, rfl, h.give hk, rfl⟩
end Go.Proofs.YtfkadaodnaaceaaGreatDoor
/- Plain law: a calendar of 64 days: what waits is below the window, in it (a queue a day), or behind it, and is in order. No program in sight. -/
namespace Go.Proofs.YtfkadaodnaaceaaGreatDoor
open Go Go.SL
def SR (l : List It) : Prop := l.Pairwise fun a b => a.rank ≤ b.rank
theorem insI_lt {x : It} {r : List It} (h : ∀ y ∈ r, x.rank < y.rank) : ∀ l, insI x (l ++ r) = insI x l ++ r
 | [] => by
  cases r with
  | nil => rfl
  | cons y r => simp only [List.nil_append, insI, if_pos (h y (by simp))]; rfl
 | a :: l => by
  simp only [List.cons_append, insI]
  split
  ·rfl
  ·rw [insI_lt h l]; rfl
theorem insI_ge {x : It} : ∀ {l : List It} (r : List It), (∀ y ∈ l, y.rank ≤ x.rank) → insI x (l ++ r) = l ++ insI x r
 | [], r, _ => rfl
 | a :: l, r, h => by
  have : ¬ x.rank < a.rank := Nat.not_lt.2 (h a (by simp))
  simp only [List.cons_append, insI, if_neg this]
  rw [insI_ge r fun y hy => h y (by simp [hy])]
theorem insI_end {x : It} {l : List It} (h : ∀ y ∈ l, y.rank ≤ x.rank) : insI x l = l ++ [x] := by
 have := insI_ge [] h
 rw [List.append_nil] at this
 exact this
theorem insI_perm (x : It) : ∀ l : List It, (insI x l).Perm (x :: l)
 | [] => .refl _
 | a :: l => by
  simp only [insI]
  split
  ·exact .refl _
  ·exact ((insI_perm x l).cons a).trans (.swap ..)
theorem mem_insI {x y : It} {l : List It} : y ∈ insI x l ↔ y = x ∨ y ∈ l := by
 rw [(insI_perm x l).mem_iff, List.mem_cons]
theorem insI_sr {x : It} : ∀ {l : List It}, SR l → SR (insI x l)
 | [], _ => List.pairwise_singleton _ _
 | a :: l, h => by
  obtain ⟨h1, h2⟩ := List.pairwise_cons.1 h
  simp only [insI]
  split
  ·rename_i hlt
   refine List.pairwise_cons.2 ⟨fun y hy => ?_, h⟩
   rcases List.mem_cons.1 hy with rfl | hy
   ·exact Nat.le_of_lt hlt
   ·exact Nat.le_trans (Nat.le_of_lt hlt) (h1 y hy)
  ·rename_i hge
   refine List.pairwise_cons.2 ⟨fun y hy => ?_, insI_sr h2⟩
   rcases mem_insI.1 hy with rfl | hy
   ·omega
   ·exact h1 y hy
theorem filter_insI_no {x : It} {p : It → Bool} (hx : p x = false) : ∀ l : List It, (insI x l).filter p = l.filter p
 | [] => by simp [insI, hx]
 | a :: l => by
  simp only [insI]
  split
  ·simp [List.filter_cons, hx]
  ·simp only [List.filter_cons]
   rw [filter_insI_no hx l]
theorem filter_insI {x : It} {p : It → Bool} (hx : p x = true) : ∀ {l : List It}, SR l → (∀ y ∈ l, p y = true → y.rank ≤ x.rank) → (insI x l).filter p = l.filter p ++ [x]
 | [], _, _ => by simp [insI, hx]
 | a :: l, hs, h => by
  obtain ⟨h1, h2⟩ := List.pairwise_cons.1 hs
  simp only [insI]
  split
  ·rename_i hlt
   have : (a :: l).filter p = [] := by
    rw [List.filter_eq_nil_iff]
    intro y hy hp
    have h3 := h y hy hp
    rcases List.mem_cons.1 hy with rfl | hy
    ·omega
    ·have := h1 y hy; omega
   rw [List.filter_cons, if_pos hx, this]; rfl
  ·simp only [List.filter_cons]
   rw [filter_insI hx h2 fun y hy => h y (by simp [hy])]
   split <;> rfl

/-- What is in the window: W, in queues by the rank's day. -/
structure WI (W : List It) (Q : Nat → List (Nat × Pk)) (D F : List Nat) (m : PM) : Prop where
 inv : PInv 64 m F Q none
 cnt : m.n = W.length
 q : ∀ q, q < 64 → (Q q).map (·.2) = (W.filter fun y => y.rank % 64 == q).map (·.pk)
 d : ∀ q, q < 64 → (q ∈ D ↔ Q q ≠ [])
 dn : D.Nodup
 dl : ∀ q ∈ D, q < 64
theorem WI.nil : WI [] (fun _ => []) [] [] ⟨[], List.replicate 64 ⟨-1, -1⟩, -1, 0⟩ :=
 ⟨PInv.new 64, rfl, fun _ _ => rfl, fun _ _ => by simp, List.nodup_nil, fun _ h => by cases h⟩
/-- One more. -/
theorem WI.lay {W : List It} {Q : Nat → List (Nat × Pk)} {D D' F F' : List Nat} {m m' : PM} {x : It} {h : Nat} (wi : WI W Q D F m) (hs : SR W) (hr : ∀ y ∈ W, y.rank % 64 = x.rank % 64 → y.rank ≤ x.rank)
 (hp : PInv 64 m' F' (upd Q (x.rank % 64) (Q (x.rank % 64) ++ [(h, x.pk)])) none) (hn : m'.n = m.n + 1) (hD : (x.rank % 64 ∈ D ∧ D' = D) ∨ (x.rank % 64 ∉ D ∧ D' = x.rank % 64 :: D)) :
 WI (insI x W) (upd Q (x.rank % 64) (Q (x.rank % 64) ++ [(h, x.pk)])) D' F' m' := by
 have h64 : x.rank % 64 < 64 := Nat.mod_lt _ (by decide)
 refine ⟨hp, by rw [hn, wi.cnt, insI_length], fun q hq => ?_, fun q hq => ?_, ?_, ?_⟩
 ·by_cases e : q = x.rank % 64
  ·subst e
   rw [upd_self, List.map_append, wi.q _ hq, filter_insI (by simp) hs (fun y hy hp => hr y hy (by simpa using hp)), List.map_append]
   rfl
  ·rw [upd_ne _ _ e, wi.q q hq, filter_insI_no (by simpa using fun e' => e e'.symm)]
 ·by_cases e : q = x.rank % 64
  ·subst e
   rw [upd_self]
   rcases hD with ⟨h1, rfl⟩ | ⟨_, rfl⟩ <;> simp [*]
  ·rw [upd_ne _ _ e, ← wi.d q hq]
   rcases hD with ⟨_, rfl⟩ | ⟨_, rfl⟩
   ·rfl
   ·simp [e]
 ·rcases hD with ⟨_, rfl⟩ | ⟨h1, rfl⟩
  ·exact wi.dn
  ·exact List.nodup_cons.2 ⟨h1, wi.dn⟩
 ·rcases hD with ⟨_, rfl⟩ | ⟨h1, rfl⟩
  ·exact wi.dl
  ·intro q hq
   rcases List.mem_cons.1 hq with rfl | hq
   ·exact h64
   ·exact wi.dl q hq
theorem WI.mem_day {W : List It} {Q : Nat → List (Nat × Pk)} {D F : List Nat} {m : PM} (wi : WI W Q D F m) {q : Nat} (hq : q < 64) : q ∈ D ↔ ∃ y ∈ W, y.rank % 64 = q := by
 rw [wi.d q hq]
 have := wi.q q hq
 constructor
 ·intro hne
  cases hf : W.filter fun y => y.rank % 64 == q with
  | nil =>
   rw [hf] at this
   simp at this
   exact absurd this hne
  | cons y t =>
   have hy : y ∈ W.filter fun y => y.rank % 64 == q := by rw [hf]; simp
   obtain ⟨h1, h2⟩ := List.mem_filter.1 hy
   exact ⟨y, h1, by simpa using h2⟩
 ·rintro ⟨y, h1, h2⟩ he
  rw [he] at this
  have hy : y ∈ W.filter fun y => y.rank % 64 == q := List.mem_filter.2 ⟨h1, by simpa using h2⟩
  cases hf : W.filter fun y => y.rank % 64 == q with
  | nil => rw [hf] at hy; cases hy
  | cons a t => rw [hf] at this; simp at this
/-- The window's first one. -/
theorem WI.first {W : List It} {Q : Nat → List (Nat × Pk)} {D F : List Nat} {m : PM} {y : It} {base j : Nat} (wi : WI (y :: W) Q D F m) (hs : SR (y :: W)) (hw : ∀ z ∈ y :: W, base ≤ z.rank ∧ z.rank < base + 64)
 (hj : j ∈ D) (hm : ∀ k ∈ D, (j + 64 - base % 64) % 64 ≤ (k + 64 - base % 64) % 64) : base + (j + 64 - base % 64) % 64 = y.rank := by
 have hj64 := wi.dl j hj
 obtain ⟨z, hz, hzj⟩ := (wi.mem_day hj64).1 hj
 have hy := hw y (by simp)
 have hzw := hw z hz
 have hyd : y.rank % 64 ∈ D := (wi.mem_day (Nat.mod_lt _ (by decide))).2 ⟨y, by simp, rfl⟩
 have hmin := hm _ hyd
 have hle : y.rank ≤ z.rank := by
  rcases List.mem_cons.1 hz with rfl | hz
  ·exact Nat.le_refl _
  ·exact (List.pairwise_cons.1 hs).1 z hz
 omega
/-- The first one leaves. -/
theorem WI.pop {W : List It} {Q : Nat → List (Nat × Pk)} {D D' F F' : List Nat} {m m' : PM} {y : It} {h : Nat} {r : List (Nat × Pk)} (wi : WI (y :: W) Q D F m) (hQ : Q (y.rank % 64) = (h, y.pk) :: r)
 (hp : PInv 64 m' F' (upd Q (y.rank % 64) r) none) (hn : m.n = m'.n + 1) (hD : (r ≠ [] ∧ D' = D) ∨ (r = [] ∧ D' = D.erase (y.rank % 64))) : WI W (upd Q (y.rank % 64) r) D' F' m' := by
 have h64 : y.rank % 64 < 64 := Nat.mod_lt _ (by decide)
 refine ⟨hp, by have := wi.cnt; simp at this; omega, fun q hq => ?_, fun q hq => ?_, ?_, ?_⟩
 ·have := wi.q q hq
  by_cases e : q = y.rank % 64
  ·subst e
   rw [upd_self]
   rw [hQ, List.filter_cons, if_pos (by simp)] at this
   simpa using this
  ·rw [upd_ne _ _ e]
   rw [List.filter_cons, if_neg (by simpa using fun e' => e e'.symm)] at this
   exact this
 ·by_cases e : q = y.rank % 64
  ·subst e
   rw [upd_self]
   rcases hD with ⟨h1, rfl⟩ | ⟨h1, rfl⟩
   ·rw [wi.d _ hq, hQ]; simp [h1]
   ·simp [h1, wi.dn.mem_erase_iff]
  ·rw [upd_ne _ _ e, ← wi.d q hq]
   rcases hD with ⟨_, rfl⟩ | ⟨_, rfl⟩
   ·rfl
   ·simp [wi.dn.mem_erase_iff, e]
 ·rcases hD with ⟨_, rfl⟩ | ⟨_, rfl⟩
  ·exact wi.dn
  ·exact wi.dn.erase _
 ·rcases hD with ⟨_, rfl⟩ | ⟨_, rfl⟩
  ·exact wi.dl
  ·exact fun q hq => wi.dl q (List.mem_of_mem_erase hq)
theorem WI.head {W : List It} {Q : Nat → List (Nat × Pk)} {D F : List Nat} {m : PM} {y : It} (wi : WI (y :: W) Q D F m) : ∃ h r, Q (y.rank % 64) = (h, y.pk) :: r := by
 have := wi.q (y.rank % 64) (Nat.mod_lt _ (by decide))
 rw [List.filter_cons, if_pos (by simp)] at this
 cases hQ : Q (y.rank % 64) with
 | nil => rw [hQ] at this; simp at this
 | cons a r =>
  rw [hQ] at this
  simp at this
  exact ⟨a.1, r, by rw [← this.1]⟩
/-- The whole. -/
structure CI (room base : Nat) (B W A I : List It) : Prop where
 all : I = B ++ (W ++ A)
 srt : SR I
 b : ∀ y ∈ B, y.rank < base
 w : ∀ y ∈ W, base ≤ y.rank ∧ y.rank < base + 64
 a : ∀ y ∈ A, base + 64 ≤ y.rank
 lt : ∀ y ∈ I, y.rank < 18446744073709551616
 len : I.length ≤ room
 bl : base < 18446744073709551616
end Go.Proofs.YtfkadaodnaaceaaGreatDoor
/- The calendar's inner functions: days, the window, what is laid into it. -/
namespace Go.Proofs.YtfkadaodnaaceaaGreatDoor
open Go Go.SL
theorem Calq.ag_62 : aggK Tryz.prog 62 = some 3 := by kernel_rfl
theorem Calq.ca_191 : callable Tryz.prog 191 = true := by kernel_rfl
theorem Calq.ca_290 : callable Tryz.prog 290 = true := by kernel_rfl
theorem Calq.ca_304 : callable Tryz.prog 304 = true := by kernel_rfl
theorem Calq.ca_305 : callable Tryz.prog 305 = true := by kernel_rfl
theorem Calq.ca_306 : callable Tryz.prog 306 = true := by kernel_rfl
theorem Calq.fo_361_0 : fieldOff Tryz.prog 361 0 = some 0 := by kernel_rfl
theorem Calq.fo_361_1 : fieldOff Tryz.prog 361 1 = some 1 := by kernel_rfl
theorem Calq.fo_361_2 : fieldOff Tryz.prog 361 2 = some 2 := by kernel_rfl
theorem Calq.sc_22 : scalarT Tryz.prog 22 = true := by kernel_rfl
theorem Calq.sc_354 : scalarT Tryz.prog 354 = true := by kernel_rfl
theorem Calq.sc_357 : scalarT Tryz.prog 357 = true := by kernel_rfl
theorem Calq.un_3 : Tryz.prog.underlying 3 = some (.int .i64) := by kernel_rfl
theorem Calq.un_22 : Tryz.prog.underlying 22 = some (.int .u64) := by kernel_rfl
set_option maxRecDepth 100000
set_option maxHeartbeats 1000000
abbrev cq (pd pp pb pa room base : Nat) : List Value := [.pointer (some ⟨pd, 0, none⟩), .pointer (some ⟨pp, 0, none⟩), .int .u64 base, .pointer (some ⟨pb, 0, none⟩), .pointer (some ⟨pa, 0, none⟩), .int .i64 room]
theorem cDay_ct (c : Cx) (p pd pp pb pa room base r : Nat) (D : List Nat) (hr : r < 18446744073709551616) : Ct Tryz.prog 290 #[.pointer (some ⟨p, 0, none⟩), .int .u64 r] c [pt p 361 (cq pd pp pb pa room base), setI pd D]
 fun v L => v = .int .i64 ((r % 64 : Nat) : Int) ∧ L = [pt p 361 (cq pd pp pb pa room base), setI pd D] := by
 refine ct_fn (args := [.pointer (some ⟨p, 0, none⟩), .int .u64 r]) [(0, .pointer (some ⟨p, 0, none⟩)), (1, .int .u64 r)] Tryz.func290 rfl Tryz.ntmps290 rfl ⟨rfl, rfl, trivial⟩ ?_
 refine cd_seq ?_
 refine cd_region [0] ?_
 refine op_y (y_assign rfl) rfl ?_
 refine op_nil ?_
 refine ent_then ?_
 refine cd_seq ?_
 refine cd_region [0, 0, 0, 0, 1, 2, 0, 0, 0, 0] ?_
 refine op_y (y_move rfl) rfl ?_
 refine op_y (y_move rfl) rfl ?_
 first | refine op_y (y_nil rfl) rfl ?_ | refine op_y (y_nili rfl) rfl ?_ | refine op_y (y_nilf rfl) rfl ?_
 first | refine op_y (y_fld0 Calq.fo_361_0 rfl) rfl ?_ | refine op_y (y_flda Calq.fo_361_0 rfl) rfl ?_
 apply op_ld Calq.sc_354 rfl rfl
 ·exact rm
 ·rfl
 apply op_c Calq.ca_191 rfl rfl (fun e he_ => fSize_ct e pd D)
 ·exact sx
 rintro _ _ ⟨rfl, rfl⟩ G_ hG_
 simp only [zn] at hG_; subst hG_
 first | refine op_y (y_conv Calq.un_3 Calq.un_22 rfl (wu64 (by omega) (by omega))) rfl ?_ | refine op_y (y_conv Calq.un_3 Calq.un_22 rfl rfl) rfl ?_
 refine op_y (y_rem (r := ((r % 64 : Nat) : Int)) rfl rfl (by decide) (by rw [Int.tmod_eq_emod_of_nonneg (by omega)]; omega)) rfl ?_
 first | refine op_y (y_conv Calq.un_22 Calq.un_3 rfl (wi64 (by omega) (by omega))) rfl ?_ | refine op_y (y_conv Calq.un_22 Calq.un_3 rfl rfl) rfl ?_
 refine op_y (y_assign rfl) rfl ?_
 refine op_nil ?_
 refine ent_then ?_
 refine cd_ret ?_
 refine ent_ret1 rfl rfl ⟨_, ⟨rfl, rfl⟩, fun w h => ?_⟩
 apply Sat.only (h := h)
 exact sx
theorem cWithin_ct (c : Cx) (p pd pp pb pa room base r : Nat) (D : List Nat) (hr : r < 18446744073709551616) (hb : base < 18446744073709551616) : Ct Tryz.prog 296 #[.pointer (some ⟨p, 0, none⟩), .int .u64 r] c [pt p 361 (cq pd pp pb pa room base), setI pd D]
 fun v L => v = .bool (decide (base ≤ r ∧ r < base + 64)) ∧ L = [pt p 361 (cq pd pp pb pa room base), setI pd D] := by
 refine ct_fn (args := [.pointer (some ⟨p, 0, none⟩), .int .u64 r]) [(0, .pointer (some ⟨p, 0, none⟩)), (1, .int .u64 r)] Tryz.func296 rfl Tryz.ntmps296 rfl ⟨rfl, rfl, trivial⟩ ?_
 by_cases h1 : base ≤ r
 ·skip
  refine cd_seq ?_
  refine cd_region [0] ?_
  refine op_y (y_assign rfl) rfl ?_
  refine op_nil ?_
  refine ent_then ?_
  refine cd_seq ?_
  refine cd_drawL [0, 1, 2, 3, 4, 5, 6, 7, 8, 9, 10, 11, 12, 13, 14, 15, 16, 17, 18, 19, 20, 21] [0, 0, 0, 0, 1, 0, 0, 0, 0, 0, 0, 3, 0, 0, 0, 0, 1, 4, 0, 0, 0, 0] mixed_ (by kernel_rfl) ?_
  refine op_y (y_move rfl) rfl ?_
  refine op_y (y_move rfl) rfl ?_
  first | refine op_y (y_nil rfl) rfl ?_ | refine op_y (y_nili rfl) rfl ?_ | refine op_y (y_nilf rfl) rfl ?_
  first | refine op_y (y_fld Calq.fo_361_2 rfl) rfl ?_ | refine op_y (y_flda Calq.fo_361_2 rfl) rfl ?_
  apply op_ld Calq.sc_22 rfl rfl
  ·exact rm
  ·rfl
  first | refine op_y (y_ge rfl rfl (decide_eq_true (by omega))) rfl ?_ | refine op_y (y_ge rfl rfl (decide_eq_false (by omega))) rfl ?_ | refine op_y (y_ge rfl rfl rfl) rfl ?_
  refine op_y (y_move rfl) rfl ?_
  first
   | refine op_s1 rfl rfl ⟨rfl, rfl⟩ ?_
   | refine op_s2 rfl rfl ⟨rfl, rfl⟩ ?_
   | (refine op_g rfl rfl ?_
      refine op_y (y_move rfl) rfl ?_)
  first
   | refine op_s1 rfl rfl ⟨rfl, rfl⟩ ?_
   | refine op_s2 rfl rfl ⟨rfl, rfl⟩ ?_
   | (refine op_g rfl rfl ?_
      refine op_y (y_move rfl) rfl ?_)
  first
   | refine op_s1 rfl rfl ⟨rfl, rfl⟩ ?_
   | refine op_s2 rfl rfl ⟨rfl, rfl⟩ ?_
   | (refine op_g rfl rfl ?_
      first | refine op_y (y_nil rfl) rfl ?_ | refine op_y (y_nili rfl) rfl ?_ | refine op_y (y_nilf rfl) rfl ?_)
  first
   | refine op_s1 rfl rfl ⟨rfl, rfl⟩ ?_
   | refine op_s2 rfl rfl ⟨rfl, rfl⟩ ?_
   | (refine op_g rfl rfl ?_
      first | refine op_y (y_fld Calq.fo_361_2 rfl) rfl ?_ | refine op_y (y_flda Calq.fo_361_2 rfl) rfl ?_)
  first
   | refine op_s rfl rfl (.inl rfl) rfl (.inr (by (first | exact fun w h => h | exact fun w h => h.drop | (intro w h; apply Sat.only (h := h); exact sx)))) ?_
   | refine op_s rfl rfl (.inr rfl) rfl (.inr (by (first | exact fun w h => h | exact fun w h => h.drop | (intro w h; apply Sat.only (h := h); exact sx)))) ?_
   | (refine op_g rfl rfl ?_
      apply op_lds Calq.sc_22 rfl rfl
      ·exact rm
      ·rfl
      ·(first | exact fun w h => h | exact fun w h => h.drop | (intro w h; apply Sat.only (h := h); exact sx)))
  first
   | refine op_s1 rfl rfl ⟨rfl, rfl⟩ ?_
   | refine op_s2 rfl rfl ⟨rfl, rfl⟩ ?_
   | (refine op_g rfl rfl ?_
      first | refine op_y (y_sub rfl rfl (wu64 (by omega) (by omega))) rfl ?_ | refine op_y (y_sub rfl rfl rfl) rfl ?_)
  first
   | refine op_s1 rfl rfl ⟨rfl, rfl⟩ ?_
   | refine op_s2 rfl rfl ⟨rfl, rfl⟩ ?_
   | (refine op_g rfl rfl ?_
      refine op_y (y_move rfl) rfl ?_)
  first
   | refine op_s1 rfl rfl ⟨rfl, rfl⟩ ?_
   | refine op_s2 rfl rfl ⟨rfl, rfl⟩ ?_
   | (refine op_g rfl rfl ?_
      first | refine op_y (y_nil rfl) rfl ?_ | refine op_y (y_nili rfl) rfl ?_ | refine op_y (y_nilf rfl) rfl ?_)
  first
   | refine op_s1 rfl rfl ⟨rfl, rfl⟩ ?_
   | refine op_s2 rfl rfl ⟨rfl, rfl⟩ ?_
   | (refine op_g rfl rfl ?_
      first | refine op_y (y_fld0 Calq.fo_361_0 rfl) rfl ?_ | refine op_y (y_flda Calq.fo_361_0 rfl) rfl ?_)
  first
   | refine op_s1 rfl rfl ⟨rfl, rfl⟩ ?_
   | refine op_s2 rfl rfl ⟨rfl, rfl⟩ ?_
   | (refine op_g rfl rfl ?_
      apply op_ld Calq.sc_354 rfl rfl
      ·exact rm
      ·rfl)
  refine op_g rfl rfl ?_
  apply op_c4 Calq.ca_191 rfl rfl (fun e he_ => fSize_ct e pd D)
  ·exact sx
  rintro _ _ ⟨rfl, rfl⟩ G_ hG_
  simp only [zn] at hG_; subst hG_
  refine ⟨by (first | exact fun w h => h | exact fun w h => h.drop | (intro w h; apply Sat.only (h := h); exact sx)), ?_⟩
  by_cases h2 : r < base + 64
  ·skip
   first
    | refine op_s1 rfl rfl ⟨rfl, rfl⟩ ?_
    | refine op_s2 rfl rfl ⟨rfl, rfl⟩ ?_
    | (refine op_g rfl rfl ?_
       first | refine op_y (y_conv Calq.un_3 Calq.un_22 rfl (wu64 (by omega) (by omega))) rfl ?_ | refine op_y (y_conv Calq.un_3 Calq.un_22 rfl rfl) rfl ?_)
   first
    | refine op_s1 rfl rfl ⟨rfl, rfl⟩ ?_
    | refine op_s2 rfl rfl ⟨rfl, rfl⟩ ?_
    | (refine op_g rfl rfl ?_
       first | refine op_y (y_lt rfl rfl (decide_eq_true (by omega))) rfl ?_ | refine op_y (y_lt rfl rfl (decide_eq_false (by omega))) rfl ?_ | refine op_y (y_lt rfl rfl rfl) rfl ?_)
   first | refine op_y (y_pickt rfl rfl) rfl ?_ | refine op_y (y_pickf rfl rfl) rfl ?_ | refine op_y (y_pick rfl rfl rfl) rfl ?_
   refine op_y (y_assign rfl) rfl ?_
   refine op_nil ?_
   refine ent_then ?_
   refine cd_ret ?_
   refine ent_ret1 rfl rfl ⟨_, ⟨by simp [h1, h2], rfl⟩, fun w h => ?_⟩
   apply Sat.only (h := h)
   exact sx
  ·skip
   first
    | refine op_s1 rfl rfl ⟨rfl, rfl⟩ ?_
    | refine op_s2 rfl rfl ⟨rfl, rfl⟩ ?_
    | (refine op_g rfl rfl ?_
       first | refine op_y (y_conv Calq.un_3 Calq.un_22 rfl (wu64 (by omega) (by omega))) rfl ?_ | refine op_y (y_conv Calq.un_3 Calq.un_22 rfl rfl) rfl ?_)
   first
    | refine op_s1 rfl rfl ⟨rfl, rfl⟩ ?_
    | refine op_s2 rfl rfl ⟨rfl, rfl⟩ ?_
    | (refine op_g rfl rfl ?_
       first | refine op_y (y_lt rfl rfl (decide_eq_true (by omega))) rfl ?_ | refine op_y (y_lt rfl rfl (decide_eq_false (by omega))) rfl ?_ | refine op_y (y_lt rfl rfl rfl) rfl ?_)
   first | refine op_y (y_pickt rfl rfl) rfl ?_ | refine op_y (y_pickf rfl rfl) rfl ?_ | refine op_y (y_pick rfl rfl rfl) rfl ?_
   refine op_y (y_assign rfl) rfl ?_
   refine op_nil ?_
   refine ent_then ?_
   refine cd_ret ?_
   refine ent_ret1 rfl rfl ⟨_, ⟨by simp [h1, h2], rfl⟩, fun w h => ?_⟩
   apply Sat.only (h := h)
   exact sx
 ·skip
  refine cd_seq ?_
  refine cd_region [0] ?_
  refine op_y (y_assign rfl) rfl ?_
  refine op_nil ?_
  refine ent_then ?_
  refine cd_seq ?_
  refine cd_drawL [0, 1, 2, 3, 4, 5, 6, 7, 8, 9, 10, 11, 12, 13, 14, 15, 16, 17, 18, 19, 20, 21] [0, 0, 0, 0, 1, 0, 0, 0, 0, 0, 0, 3, 0, 0, 0, 0, 1, 4, 0, 0, 0, 0] mixed_ (by kernel_rfl) ?_
  refine op_y (y_move rfl) rfl ?_
  refine op_y (y_move rfl) rfl ?_
  first | refine op_y (y_nil rfl) rfl ?_ | refine op_y (y_nili rfl) rfl ?_ | refine op_y (y_nilf rfl) rfl ?_
  first | refine op_y (y_fld Calq.fo_361_2 rfl) rfl ?_ | refine op_y (y_flda Calq.fo_361_2 rfl) rfl ?_
  apply op_ld Calq.sc_22 rfl rfl
  ·exact rm
  ·rfl
  first | refine op_y (y_ge rfl rfl (decide_eq_true (by omega))) rfl ?_ | refine op_y (y_ge rfl rfl (decide_eq_false (by omega))) rfl ?_ | refine op_y (y_ge rfl rfl rfl) rfl ?_
  refine op_y (y_move rfl) rfl ?_
  first
   | refine op_s1 rfl rfl ⟨rfl, rfl⟩ ?_
   | refine op_s2 rfl rfl ⟨rfl, rfl⟩ ?_
   | (refine op_g rfl rfl ?_
      refine op_y (y_move rfl) rfl ?_)
  first
   | refine op_s1 rfl rfl ⟨rfl, rfl⟩ ?_
   | refine op_s2 rfl rfl ⟨rfl, rfl⟩ ?_
   | (refine op_g rfl rfl ?_
      refine op_y (y_move rfl) rfl ?_)
  first
   | refine op_s1 rfl rfl ⟨rfl, rfl⟩ ?_
   | refine op_s2 rfl rfl ⟨rfl, rfl⟩ ?_
   | (refine op_g rfl rfl ?_
      first | refine op_y (y_nil rfl) rfl ?_ | refine op_y (y_nili rfl) rfl ?_ | refine op_y (y_nilf rfl) rfl ?_)
  first
   | refine op_s1 rfl rfl ⟨rfl, rfl⟩ ?_
   | refine op_s2 rfl rfl ⟨rfl, rfl⟩ ?_
   | (refine op_g rfl rfl ?_
      first | refine op_y (y_fld Calq.fo_361_2 rfl) rfl ?_ | refine op_y (y_flda Calq.fo_361_2 rfl) rfl ?_)
  first
   | refine op_s rfl rfl (.inl rfl) rfl (.inr (by (first | exact fun w h => h | exact fun w h => h.drop | (intro w h; apply Sat.only (h := h); exact sx)))) ?_
   | refine op_s rfl rfl (.inr rfl) rfl (.inr (by (first | exact fun w h => h | exact fun w h => h.drop | (intro w h; apply Sat.only (h := h); exact sx)))) ?_
   | (refine op_g rfl rfl ?_
      apply op_lds Calq.sc_22 rfl rfl
      ·exact rm
      ·rfl
      ·(first | exact fun w h => h | exact fun w h => h.drop | (intro w h; apply Sat.only (h := h); exact sx)))
  first
   | refine op_s1 rfl rfl ⟨rfl, rfl⟩ ?_
   | refine op_s2 rfl rfl ⟨rfl, rfl⟩ ?_
   | (refine op_g rfl rfl ?_
      first | refine op_y (y_sub rfl rfl (wu64 (by omega) (by omega))) rfl ?_ | refine op_y (y_sub rfl rfl rfl) rfl ?_)
  first
   | refine op_s1 rfl rfl ⟨rfl, rfl⟩ ?_
   | refine op_s2 rfl rfl ⟨rfl, rfl⟩ ?_
   | (refine op_g rfl rfl ?_
      refine op_y (y_move rfl) rfl ?_)
  first
   | refine op_s1 rfl rfl ⟨rfl, rfl⟩ ?_
   | refine op_s2 rfl rfl ⟨rfl, rfl⟩ ?_
   | (refine op_g rfl rfl ?_
      first | refine op_y (y_nil rfl) rfl ?_ | refine op_y (y_nili rfl) rfl ?_ | refine op_y (y_nilf rfl) rfl ?_)
  first
   | refine op_s1 rfl rfl ⟨rfl, rfl⟩ ?_
   | refine op_s2 rfl rfl ⟨rfl, rfl⟩ ?_
   | (refine op_g rfl rfl ?_
      first | refine op_y (y_fld0 Calq.fo_361_0 rfl) rfl ?_ | refine op_y (y_flda Calq.fo_361_0 rfl) rfl ?_)
  first
   | refine op_s1 rfl rfl ⟨rfl, rfl⟩ ?_
   | refine op_s2 rfl rfl ⟨rfl, rfl⟩ ?_
   | (refine op_g rfl rfl ?_
      apply op_ld Calq.sc_354 rfl rfl
      ·exact rm
      ·rfl)
  first | refine op_s rfl rfl (.inl rfl) rfl (.inr (by (first | exact fun w h => h | exact fun w h => h.drop | (intro w h; apply Sat.only (h := h); exact sx)))) ?_ | refine op_s rfl rfl (.inr rfl) rfl (.inr (by (first | exact fun w h => h | exact fun w h => h.drop | (intro w h; apply Sat.only (h := h); exact sx)))) ?_
  first
   | refine op_s1 rfl rfl ⟨rfl, rfl⟩ ?_
   | refine op_s2 rfl rfl ⟨rfl, rfl⟩ ?_
   | (refine op_g rfl rfl ?_
      first | refine op_y (y_conv Calq.un_3 Calq.un_22 rfl (wu64 (by omega) (by omega))) rfl ?_ | refine op_y (y_conv Calq.un_3 Calq.un_22 rfl rfl) rfl ?_)
  first
   | refine op_s1 rfl rfl ⟨rfl, rfl⟩ ?_
   | refine op_s2 rfl rfl ⟨rfl, rfl⟩ ?_
   | (refine op_g rfl rfl ?_
      first | refine op_y (y_lt rfl rfl (decide_eq_true (by omega))) rfl ?_ | refine op_y (y_lt rfl rfl (decide_eq_false (by omega))) rfl ?_ | refine op_y (y_lt rfl rfl rfl) rfl ?_)
  first | refine op_y (y_pickt rfl rfl) rfl ?_ | refine op_y (y_pickf rfl rfl) rfl ?_ | refine op_y (y_pick rfl rfl rfl) rfl ?_
  refine op_y (y_assign rfl) rfl ?_
  refine op_nil ?_
  refine ent_then ?_
  refine cd_ret ?_
  refine ent_ret1 rfl rfl ⟨_, ⟨by simp [h1], rfl⟩, fun w h => ?_⟩
  apply Sat.only (h := h)
  exact sx
theorem cLay_ct (c : Cx) (p pd pp pb pa room base : Nat) (W : List It) (Q : Nat → List (Nat × Pk)) (D F : List Nat) (m : PM) (x : It) (wi : WI W Q D F m) (hs : SR W) (hr : ∀ y ∈ W, y.rank % 64 = x.rank % 64 → y.rank ≤ x.rank) (hx : x.rank < 18446744073709551616)
 (hn : W.length < room) (hroom : room ≤ 4096) (hDl : D.length ≤ 64) : Ct Tryz.prog 297 #[.pointer (some ⟨p, 0, none⟩), .int .u64 x.rank, .agg (Pk.cs x.pk).toArray] c [pt p 361 (cq pd pp pb pa room base), poolC pp room m, setI pd D]
 fun v L => ∃ (Q' : Nat → List (Nat × Pk)) (D' F' : List Nat) (m' : PM), v = .tuple #[] ∧ WI (insI x W) Q' D' F' m' ∧ L = [pt p 361 (cq pd pp pb pa room base), poolC pp room m', setI pd D'] := by
 have h64 : x.rank % 64 < 64 := Nat.mod_lt _ (by decide)
 refine ct_fn (args := [.pointer (some ⟨p, 0, none⟩), .int .u64 x.rank, .agg (Pk.cs x.pk).toArray]) [(0, .pointer (some ⟨p, 0, none⟩)), (1, .int .u64 x.rank), (2, .agg (Pk.cs x.pk).toArray)] Tryz.func297 rfl Tryz.ntmps297 rfl ⟨rfl, rfl, rfl, trivial⟩ ?_
 refine cd_seq ?_
 refine cd_region [2] ?_
 refine op_boxa rfl rfl fun b5 => ?_
 refine op_nil ?_
 refine ent_then ?_
 refine cd_seq ?_
 refine cd_draw ([]) [0, 1, 2, 3, 4, 5, 6, 7, 8, 9, 10] [0, 0, 0, 1, 1, 2, 0, 0, 0, 0, 0] mixed_ (by kernel_rfl) ?_
 refine op_y (y_move rfl) rfl ?_
 first | refine op_y (y_nil rfl) rfl ?_ | refine op_y (y_nili rfl) rfl ?_ | refine op_y (y_nilf rfl) rfl ?_
 first | refine op_y (y_fld Calq.fo_361_1 rfl) rfl ?_ | refine op_y (y_flda Calq.fo_361_1 rfl) rfl ?_
 apply op_ld Calq.sc_357 rfl rfl
 ·exact rm
 ·rfl
 apply op_lda Calq.ag_62 rfl rfl
 ·exact rm
 ·(first | ((try simp only [zz, splice, Nat.reduceAdd, Nat.zero_mul, Pk.cs]) <;> rfl) | rfl)
 ·rfl
 apply op_c Calq.ca_304 rfl rfl (fun e he_ => qTake_ct e pp room 64 m F Q x.pk wi.inv (by rw [wi.cnt]; exact hn) hroom)
 ·exact sx
 rintro _ _ ⟨i, m1, F1, rfl, rfl, inv1, n1⟩ G_ hG_
 simp only [zn] at hG_; subst hG_
 refine op_y (y_move rfl) rfl ?_
 refine op_y (y_ext rfl rfl) rfl ?_
 refine op_y (y_ext rfl rfl) rfl ?_
 refine op_y (y_assign rfl) rfl ?_
 refine op_y (y_assign rfl) rfl ?_
 refine op_nil ?_
 refine ent_then ?_
 refine cd_seq ?_
 refine cd_drawL [0, 1, 2, 3, 4, 5, 7, 6, 8] [0, 0, 0, 3, 0, 0, 0, 4, 2] mixed_ (by kernel_rfl) ?_
 refine op_y (y_move rfl) rfl ?_
 first | refine op_y (y_nil rfl) rfl ?_ | refine op_y (y_nili rfl) rfl ?_ | refine op_y (y_nilf rfl) rfl ?_
 first | refine op_y (y_fld Calq.fo_361_1 rfl) rfl ?_ | refine op_y (y_flda Calq.fo_361_1 rfl) rfl ?_
 apply op_lds Calq.sc_357 rfl rfl
 ·exact rm
 ·rfl
 ·(first | exact fun w h => h | exact fun w h => h.drop | (intro w h; apply Sat.only (h := h); exact sx))
 refine op_y (y_move rfl) rfl ?_
 refine op_y (y_move rfl) rfl ?_
 refine op_y (y_move rfl) rfl ?_
 apply op_c4 Calq.ca_290 rfl rfl (fun e he_ => cDay_ct e p pd pp pb pa room base x.rank D hx)
 ·exact sx
 rintro _ _ ⟨rfl, rfl⟩ G_ hG_
 simp only [zn] at hG_; subst hG_
 refine ⟨by (first | exact fun w h => h | exact fun w h => h.drop | (intro w h; apply Sat.only (h := h); exact sx)), ?_⟩
 apply op_c Calq.ca_305 rfl rfl (fun e he_ => qAppend_ct e pp room 64 (x.rank % 64) i m1 F1 Q x.pk inv1 h64)
 ·exact sx
 rintro _ _ ⟨m2, rfl, rfl, inv2, n2⟩ G_ hG_
 simp only [zn] at hG_; subst hG_
 refine op_nil ?_
 refine ent_then ?_
 refine cd_drawL [0, 1, 2, 3, 4, 5, 6, 7] [0, 0, 0, 3, 0, 0, 4, 2] mixed_ (by kernel_rfl) ?_
 refine op_y (y_move rfl) rfl ?_
 first | refine op_y (y_nil rfl) rfl ?_ | refine op_y (y_nili rfl) rfl ?_ | refine op_y (y_nilf rfl) rfl ?_
 first | refine op_y (y_fld0 Calq.fo_361_0 rfl) rfl ?_ | refine op_y (y_flda Calq.fo_361_0 rfl) rfl ?_
 apply op_lds Calq.sc_354 rfl rfl
 ·exact rm
 ·rfl
 ·(first | exact fun w h => h | exact fun w h => h.drop | (intro w h; apply Sat.only (h := h); exact sx))
 refine op_y (y_move rfl) rfl ?_
 refine op_y (y_move rfl) rfl ?_
 apply op_c4 Calq.ca_290 rfl rfl (fun e he_ => cDay_ct e p pd pp pb pa room base x.rank D hx)
 ·exact sx
 rintro _ _ ⟨rfl, rfl⟩ G_ hG_
 simp only [zn] at hG_; subst hG_
 refine ⟨by (first | exact fun w h => h | exact fun w h => h.drop | (intro w h; apply Sat.only (h := h); exact sx)), ?_⟩
 apply op_c Calq.ca_306 rfl rfl (fun e he_ => fPut_ct e pd (x.rank % 64) D h64 hDl)
 ·exact sx
 rintro _ _ hP G_ hG_
 rcases hP with ⟨hm, rfl, rfl⟩ | ⟨hm, rfl, rfl⟩
 ·skip
  simp only [zn] at hG_; subst hG_
  refine op_nil ?_
  refine ent_end0 (.inl rfl) rfl ⟨_, ⟨_, _, _, _, rfl, wi.lay hs hr inv2 (by omega) (.inl ⟨hm, rfl⟩), rfl⟩, fun w h => ?_⟩
  apply Sat.only (h := h)
  exact sx
 ·skip
  simp only [zn] at hG_; subst hG_
  refine op_nil ?_
  refine ent_end0 (.inl rfl) rfl ⟨_, ⟨_, _, _, _, rfl, wi.lay hs hr inv2 (by omega) (.inr ⟨hm, rfl⟩), rfl⟩, fun w h => ?_⟩
  apply Sat.only (h := h)
  exact sx
end Go.Proofs.YtfkadaodnaaceaaGreatDoor
/- The calendar turns its window. -/
namespace Go.Proofs.YtfkadaodnaaceaaGreatDoor
open Go Go.SL
theorem Calq2.ag_62 : aggK Tryz.prog 62 = some 3 := by kernel_rfl
theorem Calq2.ca_274 : callable Tryz.prog 274 = true := by kernel_rfl
theorem Calq2.ca_275 : callable Tryz.prog 275 = true := by kernel_rfl
theorem Calq2.ca_296 : callable Tryz.prog 296 = true := by kernel_rfl
theorem Calq2.ca_297 : callable Tryz.prog 297 = true := by kernel_rfl
theorem Calq2.ca_307 : callable Tryz.prog 307 = true := by kernel_rfl
theorem Calq2.fo_361_2 : fieldOff Tryz.prog 361 2 = some 2 := by kernel_rfl
theorem Calq2.fo_361_4 : fieldOff Tryz.prog 361 4 = some 4 := by kernel_rfl
theorem Calq2.sc_284 : scalarT Tryz.prog 284 = true := by kernel_rfl
theorem Calq2.sc_289 : scalarT Tryz.prog 289 = true := by kernel_rfl
theorem Calq2.sz_22 : sizeK Tryz.prog 22 = some 1 := by kernel_rfl
theorem Calq2.sz_62 : sizeK Tryz.prog 62 = some 3 := by kernel_rfl
theorem Calq2.ze_62 : zeroC Tryz.prog 62 = some [.int .u32 0, .int .u32 0, .int .u64 0] := by kernel_rfl
set_option maxRecDepth 100000
set_option maxHeartbeats 1000000
def nextR : List It → Nat
 | [] => 0
 | y :: _ => y.rank
def nextB (base : Nat) : List It → Bool
 | [] => false
 | y :: _ => decide (base ≤ y.rank ∧ y.rank < base + 64)
theorem cNext_ct (c : Cx) (bx p pd pp pb pa room base k : Nat) (D : List Nat) (A : List It) (hb : base < 18446744073709551616) (hA : ∀ y ∈ A, y.rank < 18446744073709551616) :
 Ct Tryz.prog 307 #[.pointer (some ⟨bx, 0, none⟩)] c [pt bx 289 [.pointer (some ⟨p, 0, none⟩)], pt p 361 (cq pd pp pb pa room base), setI pd D, heapI pa A room k]
  fun v L => v = .tuple #[.int .u64 (nextR A), .bool (nextB base A)] ∧ L = [pt bx 289 [.pointer (some ⟨p, 0, none⟩)], pt p 361 (cq pd pp pb pa room base), setI pd D, heapI pa A room k] := by
 refine ct_fn (args := [.pointer (some ⟨bx, 0, none⟩)]) [(0, .pointer (some ⟨bx, 0, none⟩))] Tryz.func307 rfl Tryz.ntmps307 rfl ⟨rfl, trivial⟩ ?_
 refine cd_seq ?_
 refine cd_region [0, 0] ?_
 refine op_y (y_assign rfl) rfl ?_
 refine op_y (y_assign rfl) rfl ?_
 refine op_nil ?_
 refine ent_then ?_
 refine cd_seq ?_
 refine cd_region [1, 0, 0, 1, 2, 0, 0, 0, 0, 2, 0, 2, 0] ?_
 apply op_ld Calq2.sc_289 rfl rfl
 ·exact rm
 ·rfl
 first | refine op_y (y_nil rfl) rfl ?_ | refine op_y (y_nili rfl) rfl ?_ | refine op_y (y_nilf rfl) rfl ?_
 first | refine op_y (y_fld Calq2.fo_361_4 rfl) rfl ?_ | refine op_y (y_flda Calq2.fo_361_4 rfl) rfl ?_
 apply op_ld Calq2.sc_284 rfl rfl
 ·exact rm
 ·rfl
 apply op_c Calq2.ca_274 rfl rfl (fun e he_ => hPeek_ct e pa room k A)
 ·exact sx
 rintro _ _ ⟨rfl, rfl⟩ G_ hG_
 simp only [zn] at hG_; subst hG_
 cases A with
 | nil =>
  skip
  refine op_y (y_move rfl) rfl ?_
  refine op_y (y_ext rfl rfl) rfl ?_
  refine op_y (y_ext rfl rfl) rfl ?_
  refine op_y (y_ext rfl rfl) rfl ?_
  refine op_alloc Calq2.ze_62 rfl fun b4 => ?_
  refine op_y (y_assign rfl) rfl ?_
  apply op_sta Calq2.sz_62 rfl rfl rfl rfl
  ·exact rm
  ·simp
  ·(first | ((try simp only [zz, splice, Nat.reduceAdd, Nat.zero_mul, Pk.cs]) <;> rfl) | rfl)
  refine op_y (y_assign rfl) rfl ?_
  refine op_nil ?_
  refine ent_then ?_
  refine cd_seq ?_
  refine cd_region [0, 0, 0, 1, 0, 2, 0, 0, 0] ?_
  refine op_y (y_move rfl) rfl ?_
  refine op_y (y_move rfl) rfl ?_
  refine op_y (y_move rfl) rfl ?_
  first
   | refine op_s1 rfl rfl ⟨rfl, rfl⟩ ?_
   | refine op_s2 rfl rfl ⟨rfl, rfl⟩ ?_
   | (refine op_g rfl rfl ?_
      apply op_ld Calq2.sc_289 rfl rfl
      ·exact rm
      ·rfl)
  first
   | refine op_s1 rfl rfl ⟨rfl, rfl⟩ ?_
   | refine op_s2 rfl rfl ⟨rfl, rfl⟩ ?_
   | (refine op_g rfl rfl ?_
      refine op_y (y_move rfl) rfl ?_)
  first | refine op_s1 rfl rfl ⟨rfl, rfl⟩ ?_ | refine op_s2 rfl rfl ⟨rfl, rfl⟩ ?_
  first | refine op_y (y_pickt rfl rfl) rfl ?_ | refine op_y (y_pickf rfl rfl) rfl ?_ | refine op_y (y_pick rfl rfl rfl) rfl ?_
  refine op_y (y_assign rfl) rfl ?_
  refine op_y (y_assign rfl) rfl ?_
  refine op_nil ?_
  refine ent_then ?_
  refine cd_ret ?_
  refine ent_ret2 rfl rfl rfl ⟨_, ⟨rfl, rfl⟩, fun w h => ?_⟩
  apply Sat.only (h := h)
  exact sx
 | cons y A' =>
  skip
  refine op_y (y_move rfl) rfl ?_
  refine op_y (y_ext rfl rfl) rfl ?_
  refine op_y (y_ext rfl rfl) rfl ?_
  refine op_y (y_ext rfl rfl) rfl ?_
  refine op_alloc Calq2.ze_62 rfl fun b4 => ?_
  refine op_y (y_assign rfl) rfl ?_
  apply op_sta Calq2.sz_62 rfl rfl rfl rfl
  ·exact rm
  ·simp
  ·(first | ((try simp only [zz, splice, Nat.reduceAdd, Nat.zero_mul, Pk.cs]) <;> rfl) | rfl)
  refine op_y (y_assign rfl) rfl ?_
  refine op_nil ?_
  refine ent_then ?_
  refine cd_seq ?_
  refine cd_region [0, 0, 0, 1, 0, 2, 0, 0, 0] ?_
  refine op_y (y_move rfl) rfl ?_
  refine op_y (y_move rfl) rfl ?_
  refine op_y (y_move rfl) rfl ?_
  first
   | refine op_s1 rfl rfl ⟨rfl, rfl⟩ ?_
   | refine op_s2 rfl rfl ⟨rfl, rfl⟩ ?_
   | (refine op_g rfl rfl ?_
      apply op_ld Calq2.sc_289 rfl rfl
      ·exact rm
      ·rfl)
  first
   | refine op_s1 rfl rfl ⟨rfl, rfl⟩ ?_
   | refine op_s2 rfl rfl ⟨rfl, rfl⟩ ?_
   | (refine op_g rfl rfl ?_
      refine op_y (y_move rfl) rfl ?_)
  refine op_g rfl rfl ?_
  apply op_c Calq2.ca_296 rfl rfl (fun e he_ => cWithin_ct e p pd pp pb pa room base y.rank D (hA y (by simp)) hb)
  ·exact sx
  rintro _ _ ⟨rfl, rfl⟩ G_ hG_
  simp only [zn] at hG_; subst hG_
  first | refine op_y (y_pickt rfl rfl) rfl ?_ | refine op_y (y_pickf rfl rfl) rfl ?_ | refine op_y (y_pick rfl rfl rfl) rfl ?_
  refine op_y (y_assign rfl) rfl ?_
  refine op_y (y_assign rfl) rfl ?_
  refine op_nil ?_
  refine ent_then ?_
  refine cd_ret ?_
  refine ent_ret2 rfl rfl rfl ⟨_, ⟨rfl, rfl⟩, fun w h => ?_⟩
  apply Sat.only (h := h)
  exact sx

theorem nodup_len : ∀ (n : Nat) (D : List Nat), D.Nodup → (∀ q ∈ D, q < n) → D.length ≤ n
 | 0, D, _, h => by
  cases D with
  | nil => simp
  | cons a D => exact absurd (h a (by simp)) (by omega)
 | n + 1, D, hd, h => by
  by_cases hm : n ∈ D
  ·have h1 := List.length_erase_of_mem hm
   have := nodup_len n (D.erase n) (hd.erase n) fun q hq => by
    have h2 := (hd.mem_erase_iff).1 hq
    have := h q h2.2
    omega
   omega
  ·have := nodup_len n D hd fun q hq => by
    have := h q hq
    have : q ≠ n := fun e => hm (e ▸ hq)
    omega
   omega
theorem WI.dlen {W : List It} {Q : Nat → List (Nat × Pk)} {D F : List Nat} {m : PM} (wi : WI W Q D F m) : D.length ≤ 64 := nodup_len 64 D wi.dn wi.dl
theorem SR.left {a b : List It} (h : SR (a ++ b)) : SR a := (List.pairwise_append.1 h).1
theorem SR.cross {a b : List It} (h : SR (a ++ b)) : ∀ x ∈ a, ∀ y ∈ b, x.rank ≤ y.rank := (List.pairwise_append.1 h).2.2

structure TS where
 W : List It
 A : List It
 Q : Nat → List (Nat × Pk)
 D : List Nat
 F : List Nat
 m : PM
/-- What holds while the window turns to r. -/
structure TI (r room : Nat) (all : List It) (x : TS) : Prop where
 wi : WI x.W x.Q x.D x.F x.m
 all : x.W ++ x.A = all
 w : ∀ y ∈ x.W, r ≤ y.rank ∧ y.rank < r + 64
 a : ∀ y ∈ x.A, r ≤ y.rank
theorem cTurn_ct (c : Cx) (p pd pp pb pa room base r k : Nat) (x0 : TS) (all : List It) (h0 : TI r room all x0) (hs : SR all) (hlt : ∀ y ∈ all, y.rank < 18446744073709551616) (hr : r < 18446744073709551616) (hlen : all.length ≤ room) (hroom : room ≤ 4096) :
 Ct Tryz.prog 299 #[.pointer (some ⟨p, 0, none⟩), .int .u64 r] c [pt p 361 (cq pd pp pb pa room base), setI pd x0.D, poolC pp room x0.m, heapI pa x0.A room k]
  fun v L => ∃ x : TS, v = .tuple #[] ∧ TI r room all x ∧ (∀ y ∈ x.A, r + 64 ≤ y.rank) ∧ L = [pt p 361 (cq pd pp pb pa room r), setI pd x.D, poolC pp room x.m, heapI pa x.A room k] := by
 refine ct_fn (args := [.pointer (some ⟨p, 0, none⟩), .int .u64 r]) [(0, .pointer (some ⟨p, 0, none⟩)), (1, .int .u64 r)] Tryz.func299 rfl Tryz.ntmps299 rfl ⟨rfl, rfl, trivial⟩ ?_
 have hA : ∀ x, TI r room all x → ∀ y ∈ x.A, y.rank < 18446744073709551616 := fun x hx y hy => hlt y (by rw [← hx.all]; exact List.mem_append_right _ hy)
 refine cd_seq ?_
 refine cd_region [2] ?_
 refine op_box1 rfl rfl rfl fun b2 => ?_
 refine op_nil ?_
 refine ent_then ?_
 refine cd_seq ?_
 refine cd_region [1, 0, 0, 0, 2] ?_
 apply op_ld Calq2.sc_289 rfl rfl
 ·exact rm
 ·rfl
 refine op_y (y_move rfl) rfl ?_
 first | refine op_y (y_nil rfl) rfl ?_ | refine op_y (y_nili rfl) rfl ?_ | refine op_y (y_nilf rfl) rfl ?_
 first | refine op_y (y_fld Calq2.fo_361_2 rfl) rfl ?_ | refine op_y (y_flda Calq2.fo_361_2 rfl) rfl ?_
 apply op_st1 Calq2.sz_22 rfl rfl rfl
 ·exact rm
 ·rfl
 ·(first | ((try simp only [zz, splice, Nat.reduceAdd, Nat.zero_mul, Pk.cs]) <;> rfl) | rfl)
 refine op_nil ?_
 refine ent_then ?_
 refine cd_seq ?_
 refine cd_region [0, 0] ?_
 refine op_y (y_mkf rfl) rfl ?_
 refine op_y (y_assign rfl) rfl ?_
 refine op_nil ?_
 refine ent_then ?_
 refine cd_seq ?_
 refine cd_region [0, 2, 0, 0, 0, 0, 0] ?_
 refine op_y (y_move rfl) rfl ?_
 apply op_cv (f := 307) (vs := []) (cap := [_]) Calq2.ca_307 rfl rfl rfl rfl (fun e he_ => cNext_ct e b2 p pd pp pb pa room r k x0.D x0.A hr (hA x0 h0))
 ·exact sx
 rintro _ _ ⟨rfl, rfl⟩ G_ hG_
 simp only [zn] at hG_; subst hG_
 refine op_y (y_move rfl) rfl ?_
 refine op_y (y_ext rfl rfl) rfl ?_
 refine op_y (y_ext rfl rfl) rfl ?_
 refine op_y (y_assign rfl) rfl ?_
 refine op_y (y_assign rfl) rfl ?_
 refine op_nil ?_
 refine ent_then ?_
 refine cd_block ?_
 refine cd_loop (α := TS) (TI r room all) (fun x => x.A.length) (fun x => [(2, .pointer (some ⟨b2, 0, none⟩)), (4, .func (.func 307) #[] #[.pointer (some ⟨b2, 0, none⟩)]), (5, .int .u64 (nextR x.A)), (6, .bool (nextB r x.A))]) (fun x => [pt b2 289 [.pointer (some ⟨p, 0, none⟩)], pt p 361 (cq pd pp pb pa room r), setI pd x.D, heapI pa x.A room k, poolC pp room x.m]) x0 h0 ⟨rfl, rfl, rfl, rfl, trivial⟩ (fun w h => ?_) ?_
 ·apply Sat.only (h := h)
  exact sx
 rintro ⟨W, A, Q, D, F, m⟩ hx
 obtain ⟨wi, hall, hw, ha⟩ := hx
 simp only at wi hall hw ha ⊢
 cases A with
 | nil =>
  skip
  refine cd_seq ?_
  refine cd_seq ?_
  refine cd_region [0] ?_
  refine op_y (y_move rfl) rfl ?_
  refine op_nil ?_
  refine ent_then ?_
  refine cd_iff rfl ?_
  refine cd_exit ?_
  refine ent_thn_exit ?_
  refine ent_then_exit ?_
  refine ent_block_exit ?_
  refine ent_end0 (.inl rfl) rfl ⟨_, ⟨⟨W, [], Q, D, F, m⟩, rfl, ⟨wi, hall, hw, ha⟩, (fun y hy => by cases hy), rfl⟩, fun w h => ?_⟩
  apply Sat.only (h := h)
  exact sx
 | cons y A' =>
  skip
  by_cases hin : r ≤ y.rank ∧ y.rank < r + 64
  ·have hnb : nextB r (y :: A') = true := by simp [nextB, hin]
   simp only [hnb]
   skip
   have hsr : SR (W ++ (y :: A')) := by rw [hall]; exact hs
   have hcr := hsr.cross
   have hll : W.length + (A'.length + 1) ≤ room := by have := congrArg List.length hall; simp at this; omega
   have hyr : y.rank < 18446744073709551616 := hlt y (by rw [← hall]; simp)
   refine cd_seq ?_
   refine cd_seq ?_
   refine cd_region [0] ?_
   refine op_y (y_move rfl) rfl ?_
   refine op_nil ?_
   refine ent_then ?_
   refine cd_ift rfl ?_
   refine cd_skip ?_
   refine ent_then ?_
   refine cd_seq ?_
   refine cd_block ?_
   refine cd_seq ?_
   refine cd_region [1, 0, 0, 1, 2, 0, 0, 0, 0, 2, 0, 2, 0] ?_
   apply op_ld Calq2.sc_289 rfl rfl
   ·exact rm
   ·rfl
   first | refine op_y (y_nil rfl) rfl ?_ | refine op_y (y_nili rfl) rfl ?_ | refine op_y (y_nilf rfl) rfl ?_
   first | refine op_y (y_fld Calq2.fo_361_4 rfl) rfl ?_ | refine op_y (y_flda Calq2.fo_361_4 rfl) rfl ?_
   apply op_ld Calq2.sc_284 rfl rfl
   ·exact rm
   ·rfl
   apply op_c Calq2.ca_275 rfl rfl (fun e he_ => hPop_ct e pa room k (y :: A') (by simp; omega))
   ·exact sx
   rintro _ _ ⟨rfl, rfl⟩ G_ hG_
   simp only [zn] at hG_; subst hG_
   simp only [List.tail_cons]
   refine op_y (y_move rfl) rfl ?_
   refine op_y (y_ext rfl rfl) rfl ?_
   refine op_y (y_ext rfl rfl) rfl ?_
   refine op_y (y_ext rfl rfl) rfl ?_
   refine op_alloc Calq2.ze_62 rfl fun b8 => ?_
   refine op_y (y_assign rfl) rfl ?_
   apply op_sta Calq2.sz_62 rfl rfl rfl rfl
   ·exact rm
   ·simp
   ·(first | ((try simp only [zz, splice, Nat.reduceAdd, Nat.zero_mul, Pk.cs]) <;> rfl) | rfl)
   refine op_y (y_assign rfl) rfl ?_
   refine op_nil ?_
   refine ent_then ?_
   refine cd_region [1, 0, 1, 2] ?_
   apply op_ld Calq2.sc_289 rfl rfl
   ·exact rm
   ·rfl
   refine op_y (y_move rfl) rfl ?_
   apply op_lda Calq2.ag_62 rfl rfl
   ·exact rm
   ·(first | ((try simp only [zz, splice, Nat.reduceAdd, Nat.zero_mul, Pk.cs]) <;> rfl) | rfl)
   ·rfl
   apply op_c Calq2.ca_297 rfl rfl (fun e he_ => cLay_ct e p pd pp pb pa room r W Q D F m y wi hsr.left (fun z hz _ => hcr z hz y (by simp)) hyr (by omega) hroom wi.dlen)
   ·exact sx
   rintro _ _ ⟨Q', D', F', m', rfl, wi', rfl⟩ G_ hG_
   simp only [zn] at hG_; subst hG_
   refine op_nil ?_
   refine ent_block ?_
   refine ent_then ?_
   refine cd_region [0, 2, 0, 0, 0, 0, 0] ?_
   refine op_y (y_move rfl) rfl ?_
   have hins : insI y W = W ++ [y] := insI_end fun z hz => hcr z hz y (by simp)
   rw [hins] at wi'
   have hx' : TI r room all ⟨W ++ [y], A', Q', D', F', m'⟩ := ⟨wi', by simp only [List.append_assoc]; exact hall, fun z hz => by
    rcases List.mem_append.1 hz with hz | hz
    ·exact hw z hz
    ·simp at hz; subst hz; exact hin, fun z hz => ha z (by simp [hz])⟩
   apply op_cv (f := 307) (vs := []) (cap := [_]) Calq2.ca_307 rfl rfl rfl rfl (fun e he_ => cNext_ct e b2 p pd pp pb pa room r k D' A' hr (hA _ hx'))
   ·exact sx
   rintro _ _ ⟨rfl, rfl⟩ G_ hG_
   simp only [zn] at hG_; subst hG_
   refine op_y (y_move rfl) rfl ?_
   refine op_y (y_ext rfl rfl) rfl ?_
   refine op_y (y_ext rfl rfl) rfl ?_
   refine op_y (y_assign rfl) rfl ?_
   refine op_y (y_assign rfl) rfl ?_
   refine op_nil ?_
   refine ent_back ⟨W ++ [y], A', Q', D', F', m'⟩ hx' (by simp) ⟨rfl, rfl, rfl, rfl, trivial⟩ (fun w h => ?_)
   apply Sat.only (h := h)
   exact sx
  ·have hnb : nextB r (y :: A') = false := by simp [nextB]; omega
   simp only [hnb]
   skip
   refine cd_seq ?_
   refine cd_seq ?_
   refine cd_region [0] ?_
   refine op_y (y_move rfl) rfl ?_
   refine op_nil ?_
   refine ent_then ?_
   refine cd_iff rfl ?_
   refine cd_exit ?_
   refine ent_thn_exit ?_
   refine ent_then_exit ?_
   refine ent_block_exit ?_
   have hsr : SR (W ++ (y :: A')) := by rw [hall]; exact hs
   have hs2 : SR (y :: A') := (List.pairwise_append.1 hsr).2.1
   have hy := ha y (by simp)
   refine ent_end0 (.inl rfl) rfl ⟨_, ⟨⟨W, y :: A', Q, D, F, m⟩, rfl, ⟨wi, hall, hw, ha⟩, (fun z hz => ?_), rfl⟩, fun w h => ?_⟩
   ·rcases List.mem_cons.1 hz with rfl | hz
    ·omega
    ·have := (List.pairwise_cons.1 hs2).1 z hz; omega
   ·apply Sat.only (h := h)
    exact sx
end Go.Proofs.YtfkadaodnaaceaaGreatDoor
/- The set of numbers, of one level: what is taken out, and a new one. -/
namespace Go.Proofs.YtfkadaodnaaceaaGreatDoor
open Go Go.SL
theorem Ffs2.ca_303 : callable Tryz.prog 303 = true := by kernel_rfl
theorem Ffs2.fo_405_0 : fieldOff Tryz.prog 405 0 = some 0 := by kernel_rfl
theorem Ffs2.fo_405_1 : fieldOff Tryz.prog 405 1 = some 1 := by kernel_rfl
theorem Ffs2.pl_405 : placesK Tryz.prog 405 = some [(0, 1), (1, 1)] := by kernel_rfl
theorem Ffs2.sc_3 : scalarT Tryz.prog 3 = true := by kernel_rfl
theorem Ffs2.sc_22 : scalarT Tryz.prog 22 = true := by kernel_rfl
theorem Ffs2.sc_264 : scalarT Tryz.prog 264 = true := by kernel_rfl
theorem Ffs2.sc_403 : scalarT Tryz.prog 403 = true := by kernel_rfl
theorem Ffs2.sl_264 : sliceK Tryz.prog 264 = some (22, 1, 8) := by kernel_rfl
theorem Ffs2.sl_403 : sliceK Tryz.prog 403 = some (264, 1, 24) := by kernel_rfl
theorem Ffs2.sz_3 : sizeK Tryz.prog 3 = some 1 := by kernel_rfl
theorem Ffs2.sz_22 : sizeK Tryz.prog 22 = some 1 := by kernel_rfl
theorem Ffs2.sz_403 : sizeK Tryz.prog 403 = some 1 := by kernel_rfl
theorem Ffs2.un_403 : Tryz.prog.underlying 403 = some (.slice 264) := by kernel_rfl
theorem Ffs2.ze_22 : zeroC Tryz.prog 22 = some [.int .u64 0] := by kernel_rfl
theorem Ffs2.ze_264 : zeroC Tryz.prog 264 = some [.slice none 0 0] := by kernel_rfl
theorem Ffs2.ze_405 : zeroC Tryz.prog 405 = some [.slice none 0 0, .int .i64 0] := by kernel_rfl
set_option maxRecDepth 100000
set_option maxHeartbeats 1000000
theorem fDrop_ct (c : Cx) (p i : Nat) (D : List Nat) (hi : i < 64) (hm : i ∈ D) (hDl : D.length ≤ 64) : Ct Tryz.prog 295 #[.pointer (some ⟨p, 0, none⟩), .int .i64 i] c [setI p D]
 fun v L => v = .bool true ∧ L = [setI p (D.erase i)] := by
 have hpos : 0 < D.length := List.length_pos_of_mem hm
 have hle : (D.erase i).length = D.length - 1 := List.length_erase_of_mem hm
 refine ct_fn (args := [.pointer (some ⟨p, 0, none⟩), .int .i64 i]) [(0, .pointer (some ⟨p, 0, none⟩)), (1, .int .i64 i)] Tryz.func295 rfl Tryz.ntmps295 rfl ⟨rfl, rfl, trivial⟩ ?_
 refine cd_seq ?_
 refine cd_region [0] ?_
 refine op_y (y_assign rfl) rfl ?_
 refine op_nil ?_
 refine ent_then ?_
 refine cd_seq ?_
 refine cd_seq ?_
 refine cd_region [0, 0, 2, 0] ?_
 refine op_y (y_move rfl) rfl ?_
 refine op_y (y_move rfl) rfl ?_
 apply op_c Ffs2.ca_303 rfl rfl (fun e he_ => fHas_ct e p i D hi)
 ·exact sx
 rintro _ _ ⟨rfl, rfl⟩ G_ hG_
 simp only [zn] at hG_; subst hG_
 rw [decide_eq_true hm]
 first | refine op_y (y_not (b := true) (r := false) rfl rfl) rfl ?_ | refine op_y (y_not (b := false) (r := true) rfl rfl) rfl ?_ | refine op_y (y_not rfl rfl) rfl ?_
 refine op_nil ?_
 refine ent_then ?_
 refine cd_iff rfl ?_
 refine cd_open setI_open ?_
 rintro ⟨W, lb, cap, b, r⟩ hb
 simp only [] at hb ⊢
 have hW := hb.lt
 have hb' := hb.drop hi
 obtain ⟨W', eW⟩ : ∃ W', W &&& (2 ^ 64 - 1 - (1 <<< i) % 2 ^ 64) = W' := ⟨_, rfl⟩
 rw [eW] at hb'
 have fin : ∀ w, Sat [pt b 22 [.int .u64 W'], pt p 405 [.slice (some ⟨lb, 0, none⟩) 1 cap, .int .i64 ((D.length : Int) - 1)], pt lb 264 (.slice (some ⟨b, 0, none⟩) 1 1 :: r)] c w → Sat [setI p (D.erase i)] c w := fun w h => by
  refine setI_shut hb' (lb := lb) (cap := cap) (b := b) (r := r) ?_
  simp only [fcs, hle]
  rw [show ((D.length - 1 : Nat) : Int) = (D.length : Int) - 1 by omega]
  apply Sat.only (h := h)
  exact sx
 refine cd_skip ?_
 refine ent_then ?_
 refine cd_seq ?_
 refine cd_region [0, 0, 0, 1, 0, 0, 0, 2] ?_
 refine op_y (y_move rfl) rfl ?_
 first | refine op_y (y_nil rfl) rfl ?_ | refine op_y (y_nili rfl) rfl ?_ | refine op_y (y_nilf rfl) rfl ?_
 first | refine op_y (y_fld Ffs2.fo_405_1 rfl) rfl ?_ | refine op_y (y_flda Ffs2.fo_405_1 rfl) rfl ?_
 apply op_ld Ffs2.sc_3 rfl rfl
 ·exact rm
 ·rfl
 first | refine op_y (y_sub rfl rfl (wi64 (by omega) (by omega))) rfl ?_ | refine op_y (y_sub rfl rfl rfl) rfl ?_
 first | refine op_y (y_nil rfl) rfl ?_ | refine op_y (y_nili rfl) rfl ?_ | refine op_y (y_nilf rfl) rfl ?_
 first | refine op_y (y_fld Ffs2.fo_405_1 rfl) rfl ?_ | refine op_y (y_flda Ffs2.fo_405_1 rfl) rfl ?_
 apply op_st1 Ffs2.sz_3 rfl rfl rfl
 ·exact rm
 ·rfl
 ·(first | ((try simp only [zz, splice, Nat.reduceAdd, Nat.zero_mul, Nat.zero]) <;> rfl) | rfl)
 refine op_nil ?_
 refine ent_then ?_
 refine cd_seq ?_
 refine cd_seq ?_
 refine cd_region [0, 0, 0, 1, 0, 0, 0] ?_
 refine op_y (y_move rfl) rfl ?_
 first | refine op_y (y_nil rfl) rfl ?_ | refine op_y (y_nili rfl) rfl ?_ | refine op_y (y_nilf rfl) rfl ?_
 first | refine op_y (y_fld0 Ffs2.fo_405_0 rfl) rfl ?_ | refine op_y (y_flda Ffs2.fo_405_0 rfl) rfl ?_
 apply op_ld Ffs2.sc_403 rfl rfl
 ·exact rm
 ·rfl
 refine op_y (y_len Ffs2.un_403 rfl) rfl ?_
 first | refine op_y (y_sub rfl rfl (wi64 (by omega) (by omega))) rfl ?_ | refine op_y (y_sub rfl rfl rfl) rfl ?_
 refine op_y (y_assign rfl) rfl ?_
 refine op_nil ?_
 refine ent_then ?_
 refine cd_block ?_
 refine cd_rounds 1 ?_
 refine cd_seq ?_
 refine cd_seq ?_
 refine cd_region [0, 0] ?_
 refine op_y (y_move rfl) rfl ?_
 first | refine op_y (y_ge rfl rfl (decide_eq_true (by omega))) rfl ?_ | refine op_y (y_ge rfl rfl (decide_eq_false (by omega))) rfl ?_ | refine op_y (y_ge rfl rfl rfl) rfl ?_
 refine op_nil ?_
 refine ent_then ?_
 refine cd_ift rfl ?_
 by_cases hz : W' = 0
 ·subst hz
  skip
  refine cd_skip ?_
  refine ent_then ?_
  refine cd_seq ?_
  refine cd_block ?_
  refine cd_seq ?_
  refine cd_draw ([]) [0, 1, 2, 3, 4, 5, 6, 7, 8, 9, 10, 11, 12, 13, 14, 15, 16] [0, 0, 0, 1, 0, 0, 1, 0, 0, 0, 1, 0, 0, 0, 0, 0, 2] mixed_ (by kernel_rfl) ?_
  refine op_y (y_move rfl) rfl ?_
  first | refine op_y (y_nil rfl) rfl ?_ | refine op_y (y_nili rfl) rfl ?_ | refine op_y (y_nilf rfl) rfl ?_
  first | refine op_y (y_fld0 Ffs2.fo_405_0 rfl) rfl ?_ | refine op_y (y_flda Ffs2.fo_405_0 rfl) rfl ?_
  apply op_ld Ffs2.sc_403 rfl rfl
  ·exact rm
  ·rfl
  refine op_y (y_move rfl) rfl ?_
  first | refine op_y (y_ix0 (j := 0) Ffs2.sl_403 rfl rfl (by omega) (by omega)) rfl ?_ | refine op_y (y_ix (j := 0) Ffs2.sl_403 rfl rfl (by omega) (by omega)) rfl ?_ | refine op_y (y_ixa (j := 0) Ffs2.sl_403 rfl rfl (by omega) (by omega)) rfl ?_
  apply op_ld Ffs2.sc_264 rfl rfl
  ·exact rm
  ·rfl
  refine op_y (y_move rfl) rfl ?_
  first | refine op_y (y_quon rfl rfl (by omega) (by omega) (wi64 (by omega) (by omega))) rfl ?_ | refine op_y (y_quo rfl rfl (by omega) rfl) rfl ?_
  first | refine op_y (y_ix0 (j := 0) Ffs2.sl_264 rfl rfl (by omega) (by omega)) rfl ?_ | refine op_y (y_ix (j := 0) Ffs2.sl_264 rfl rfl (by omega) (by omega)) rfl ?_ | refine op_y (y_ixa (j := 0) Ffs2.sl_264 rfl rfl (by omega) (by omega)) rfl ?_
  apply op_ld Ffs2.sc_22 rfl rfl
  ·exact rm
  ·rfl
  refine op_y (y_move rfl) rfl ?_
  first | refine op_y (y_remn rfl rfl (by omega) (by omega)) rfl ?_ | refine op_y (y_rem rfl rfl (by omega) rfl) rfl ?_
  refine op_y (y_shlN (a := 1) (b := i) rfl rfl rfl rfl (by omega) (by show _ ≤ 64; omega)) rfl ?_
  refine op_y ((eW ▸ y_andnotN (k := .u64) (a := W) (b := (1 <<< i) % 2 ^ 64) rfl rfl rfl rfl rfl hW (Nat.mod_lt _ (by decide)))) rfl ?_
  first | refine op_y (y_ix0 (j := 0) Ffs2.sl_264 rfl rfl (by omega) (by omega)) rfl ?_ | refine op_y (y_ix (j := 0) Ffs2.sl_264 rfl rfl (by omega) (by omega)) rfl ?_ | refine op_y (y_ixa (j := 0) Ffs2.sl_264 rfl rfl (by omega) (by omega)) rfl ?_
  apply op_st1 Ffs2.sz_22 rfl rfl rfl
  ·exact rm
  ·rfl
  ·(first | ((try simp only [zz, splice, Nat.reduceAdd, Nat.zero_mul, Nat.zero]) <;> rfl) | rfl)
  refine op_nil ?_
  refine ent_then ?_
  refine cd_seq ?_
  refine cd_region [0, 0, 0] ?_
  refine op_y (y_move rfl) rfl ?_
  first | refine op_y (y_quon rfl rfl (by omega) (by omega) (wi64 (by omega) (by omega))) rfl ?_ | refine op_y (y_quo rfl rfl (by omega) rfl) rfl ?_
  refine op_y (y_assign rfl) rfl ?_
  refine op_nil ?_
  refine ent_then ?_
  refine cd_seq ?_
  refine cd_region [0, 0, 0, 1, 0, 0, 1, 0, 0, 1, 0] ?_
  refine op_y (y_move rfl) rfl ?_
  first | refine op_y (y_nil rfl) rfl ?_ | refine op_y (y_nili rfl) rfl ?_ | refine op_y (y_nilf rfl) rfl ?_
  first | refine op_y (y_fld0 Ffs2.fo_405_0 rfl) rfl ?_ | refine op_y (y_flda Ffs2.fo_405_0 rfl) rfl ?_
  apply op_ld Ffs2.sc_403 rfl rfl
  ·exact rm
  ·rfl
  refine op_y (y_move rfl) rfl ?_
  first | refine op_y (y_ix0 (j := 0) Ffs2.sl_403 rfl rfl (by omega) (by omega)) rfl ?_ | refine op_y (y_ix (j := 0) Ffs2.sl_403 rfl rfl (by omega) (by omega)) rfl ?_ | refine op_y (y_ixa (j := 0) Ffs2.sl_403 rfl rfl (by omega) (by omega)) rfl ?_
  apply op_ld Ffs2.sc_264 rfl rfl
  ·exact rm
  ·rfl
  refine op_y (y_move rfl) rfl ?_
  first | refine op_y (y_ix0 (j := 0) Ffs2.sl_264 rfl rfl (by omega) (by omega)) rfl ?_ | refine op_y (y_ix (j := 0) Ffs2.sl_264 rfl rfl (by omega) (by omega)) rfl ?_ | refine op_y (y_ixa (j := 0) Ffs2.sl_264 rfl rfl (by omega) (by omega)) rfl ?_
  apply op_ld Ffs2.sc_22 rfl rfl
  ·exact rm
  ·rfl
  first | refine op_y (y_ne rfl rfl (neT (by omega))) rfl ?_ | refine op_y (y_ne rfl rfl (neF (by omega))) rfl ?_ | refine op_y (y_ne rfl rfl rfl) rfl ?_
  refine op_nil ?_
  refine ent_then ?_
  refine cd_iff rfl ?_
  refine cd_skip ?_
  refine ent_block ?_
  refine ent_then ?_
  refine cd_region [0, 0, 0] ?_
  refine op_y (y_move rfl) rfl ?_
  first | refine op_y (y_sub rfl rfl (wi64 (by omega) (by omega))) rfl ?_ | refine op_y (y_sub rfl rfl rfl) rfl ?_
  refine op_y (y_assign rfl) rfl ?_
  refine op_nil ?_
  refine ent_round ?_
  refine cd_seq ?_
  refine cd_seq ?_
  refine cd_region [0, 0] ?_
  refine op_y (y_move rfl) rfl ?_
  first | refine op_y (y_ge rfl rfl (decide_eq_true (by omega))) rfl ?_ | refine op_y (y_ge rfl rfl (decide_eq_false (by omega))) rfl ?_ | refine op_y (y_ge rfl rfl rfl) rfl ?_
  refine op_nil ?_
  refine ent_then ?_
  refine cd_iff rfl ?_
  refine cd_exit ?_
  refine ent_thn_exit ?_
  refine ent_then_exit ?_
  refine ent_block_exit ?_
  refine ent_then ?_
  refine cd_seq ?_
  refine cd_region [0] ?_
  refine op_y (y_assign rfl) rfl ?_
  refine op_nil ?_
  refine ent_then ?_
  refine cd_ret ?_
  refine ent_ret1 rfl rfl ⟨_, ⟨rfl, rfl⟩, fun w h => fin w h⟩
 ·skip
  refine cd_skip ?_
  refine ent_then ?_
  refine cd_seq ?_
  refine cd_block ?_
  refine cd_seq ?_
  refine cd_draw ([]) [0, 1, 2, 3, 4, 5, 6, 7, 8, 9, 10, 11, 12, 13, 14, 15, 16] [0, 0, 0, 1, 0, 0, 1, 0, 0, 0, 1, 0, 0, 0, 0, 0, 2] mixed_ (by kernel_rfl) ?_
  refine op_y (y_move rfl) rfl ?_
  first | refine op_y (y_nil rfl) rfl ?_ | refine op_y (y_nili rfl) rfl ?_ | refine op_y (y_nilf rfl) rfl ?_
  first | refine op_y (y_fld0 Ffs2.fo_405_0 rfl) rfl ?_ | refine op_y (y_flda Ffs2.fo_405_0 rfl) rfl ?_
  apply op_ld Ffs2.sc_403 rfl rfl
  ·exact rm
  ·rfl
  refine op_y (y_move rfl) rfl ?_
  first | refine op_y (y_ix0 (j := 0) Ffs2.sl_403 rfl rfl (by omega) (by omega)) rfl ?_ | refine op_y (y_ix (j := 0) Ffs2.sl_403 rfl rfl (by omega) (by omega)) rfl ?_ | refine op_y (y_ixa (j := 0) Ffs2.sl_403 rfl rfl (by omega) (by omega)) rfl ?_
  apply op_ld Ffs2.sc_264 rfl rfl
  ·exact rm
  ·rfl
  refine op_y (y_move rfl) rfl ?_
  first | refine op_y (y_quon rfl rfl (by omega) (by omega) (wi64 (by omega) (by omega))) rfl ?_ | refine op_y (y_quo rfl rfl (by omega) rfl) rfl ?_
  first | refine op_y (y_ix0 (j := 0) Ffs2.sl_264 rfl rfl (by omega) (by omega)) rfl ?_ | refine op_y (y_ix (j := 0) Ffs2.sl_264 rfl rfl (by omega) (by omega)) rfl ?_ | refine op_y (y_ixa (j := 0) Ffs2.sl_264 rfl rfl (by omega) (by omega)) rfl ?_
  apply op_ld Ffs2.sc_22 rfl rfl
  ·exact rm
  ·rfl
  refine op_y (y_move rfl) rfl ?_
  first | refine op_y (y_remn rfl rfl (by omega) (by omega)) rfl ?_ | refine op_y (y_rem rfl rfl (by omega) rfl) rfl ?_
  refine op_y (y_shlN (a := 1) (b := i) rfl rfl rfl rfl (by omega) (by show _ ≤ 64; omega)) rfl ?_
  refine op_y ((eW ▸ y_andnotN (k := .u64) (a := W) (b := (1 <<< i) % 2 ^ 64) rfl rfl rfl rfl rfl hW (Nat.mod_lt _ (by decide)))) rfl ?_
  first | refine op_y (y_ix0 (j := 0) Ffs2.sl_264 rfl rfl (by omega) (by omega)) rfl ?_ | refine op_y (y_ix (j := 0) Ffs2.sl_264 rfl rfl (by omega) (by omega)) rfl ?_ | refine op_y (y_ixa (j := 0) Ffs2.sl_264 rfl rfl (by omega) (by omega)) rfl ?_
  apply op_st1 Ffs2.sz_22 rfl rfl rfl
  ·exact rm
  ·rfl
  ·(first | ((try simp only [zz, splice, Nat.reduceAdd, Nat.zero_mul, Nat.zero]) <;> rfl) | rfl)
  refine op_nil ?_
  refine ent_then ?_
  refine cd_seq ?_
  refine cd_region [0, 0, 0] ?_
  refine op_y (y_move rfl) rfl ?_
  first | refine op_y (y_quon rfl rfl (by omega) (by omega) (wi64 (by omega) (by omega))) rfl ?_ | refine op_y (y_quo rfl rfl (by omega) rfl) rfl ?_
  refine op_y (y_assign rfl) rfl ?_
  refine op_nil ?_
  refine ent_then ?_
  refine cd_seq ?_
  refine cd_region [0, 0, 0, 1, 0, 0, 1, 0, 0, 1, 0] ?_
  refine op_y (y_move rfl) rfl ?_
  first | refine op_y (y_nil rfl) rfl ?_ | refine op_y (y_nili rfl) rfl ?_ | refine op_y (y_nilf rfl) rfl ?_
  first | refine op_y (y_fld0 Ffs2.fo_405_0 rfl) rfl ?_ | refine op_y (y_flda Ffs2.fo_405_0 rfl) rfl ?_
  apply op_ld Ffs2.sc_403 rfl rfl
  ·exact rm
  ·rfl
  refine op_y (y_move rfl) rfl ?_
  first | refine op_y (y_ix0 (j := 0) Ffs2.sl_403 rfl rfl (by omega) (by omega)) rfl ?_ | refine op_y (y_ix (j := 0) Ffs2.sl_403 rfl rfl (by omega) (by omega)) rfl ?_ | refine op_y (y_ixa (j := 0) Ffs2.sl_403 rfl rfl (by omega) (by omega)) rfl ?_
  apply op_ld Ffs2.sc_264 rfl rfl
  ·exact rm
  ·rfl
  refine op_y (y_move rfl) rfl ?_
  first | refine op_y (y_ix0 (j := 0) Ffs2.sl_264 rfl rfl (by omega) (by omega)) rfl ?_ | refine op_y (y_ix (j := 0) Ffs2.sl_264 rfl rfl (by omega) (by omega)) rfl ?_ | refine op_y (y_ixa (j := 0) Ffs2.sl_264 rfl rfl (by omega) (by omega)) rfl ?_
  apply op_ld Ffs2.sc_22 rfl rfl
  ·exact rm
  ·rfl
  first | refine op_y (y_ne rfl rfl (neT (by omega))) rfl ?_ | refine op_y (y_ne rfl rfl (neF (by omega))) rfl ?_ | refine op_y (y_ne rfl rfl rfl) rfl ?_
  refine op_nil ?_
  refine ent_then ?_
  refine cd_ift rfl ?_
  refine cd_exit ?_
  refine ent_block_pass rfl ?_
  refine ent_thn_exit ?_
  refine ent_then_exit ?_
  refine ent_block_exit ?_
  refine ent_then ?_
  refine cd_seq ?_
  refine cd_region [0] ?_
  refine op_y (y_assign rfl) rfl ?_
  refine op_nil ?_
  refine ent_then ?_
  refine cd_ret ?_
  refine ent_ret1 rfl rfl ⟨_, ⟨rfl, rfl⟩, fun w h => fin w h⟩
theorem fNew_ct (c : Cx) : Ct Tryz.prog 189 #[.int .i64 1] c [] fun v L => ∃ p, v = .tuple #[.pointer (some ⟨p, 0, none⟩), .int .i64 0] ∧ L = [setI p []] := by
 refine ct_fn (args := [.int .i64 1]) [(0, .int .i64 1)] Tryz.func189 rfl Tryz.ntmps189 rfl ⟨rfl, trivial⟩ ?_
 refine cd_to (L' := [ownS 264 1 none 0 0 []]) (fun w h => ownS_nil h) ?_
 refine cd_seq ?_
 refine cd_region [0, 0] ?_
 refine op_y (y_assign rfl) rfl ?_
 refine op_y (y_assign rfl) rfl ?_
 refine op_nil ?_
 refine ent_then ?_
 refine cd_seq ?_
 refine cd_seq ?_
 refine cd_region [0, 0, 0, 0, 0, 0] ?_
 refine op_y (y_move rfl) rfl ?_
 first | refine op_y (y_lt rfl rfl (decide_eq_true (by omega))) rfl ?_ | refine op_y (y_lt rfl rfl (decide_eq_false (by omega))) rfl ?_ | refine op_y (y_lt rfl rfl rfl) rfl ?_
 refine op_y (y_move rfl) rfl ?_
 first
  | refine op_s1 rfl rfl ⟨rfl, rfl⟩ ?_
  | refine op_s2 rfl rfl ⟨rfl, rfl⟩ ?_
  | (refine op_g rfl rfl ?_
     refine op_y (y_move rfl) rfl ?_)
 first
  | refine op_s1 rfl rfl ⟨rfl, rfl⟩ ?_
  | refine op_s2 rfl rfl ⟨rfl, rfl⟩ ?_
  | (refine op_g rfl rfl ?_
     first | refine op_y (y_gt rfl rfl (decide_eq_true (by omega))) rfl ?_ | refine op_y (y_gt rfl rfl (decide_eq_false (by omega))) rfl ?_ | refine op_y (y_gt rfl rfl rfl) rfl ?_)
 first | refine op_y (y_pickt rfl rfl) rfl ?_ | refine op_y (y_pickf rfl rfl) rfl ?_ | refine op_y (y_pick rfl rfl rfl) rfl ?_
 refine op_nil ?_
 refine ent_then ?_
 refine cd_iff rfl ?_
 refine cd_skip ?_
 refine ent_then ?_
 refine cd_seq ?_
 refine cd_region [0, 2, 0] ?_
 apply op_build Ffs2.pl_405 Ffs2.ze_405 rfl rfl
 ·(first | ((try simp [fillL, splice, Value.cells, Nat.zero]) <;> rfl) | rfl)
 refine op_boxa rfl rfl fun b13 => ?_
 refine op_y (y_assign rfl) rfl ?_
 refine op_nil ?_
 refine ent_then ?_
 refine cd_seq ?_
 refine cd_seq ?_
 refine cd_region [0] ?_
 refine op_y (y_assign rfl) rfl ?_
 refine op_nil ?_
 refine ent_then ?_
 refine cd_block ?_
 refine cd_rounds 1 ?_
 refine cd_seq ?_
 refine cd_seq ?_
 refine cd_region [0, 0, 0, 1, 0, 0, 0] ?_
 refine op_y (y_move rfl) rfl ?_
 first | refine op_y (y_nil rfl) rfl ?_ | refine op_y (y_nili rfl) rfl ?_ | refine op_y (y_nilf rfl) rfl ?_
 first | refine op_y (y_fld0 Ffs2.fo_405_0 rfl) rfl ?_ | refine op_y (y_flda Ffs2.fo_405_0 rfl) rfl ?_
 apply op_ld Ffs2.sc_403 rfl rfl
 ·exact rm
 ·rfl
 refine op_y (y_len Ffs2.un_403 rfl) rfl ?_
 refine op_y (y_move rfl) rfl ?_
 first | refine op_y (y_lt rfl rfl (decide_eq_true (by omega))) rfl ?_ | refine op_y (y_lt rfl rfl (decide_eq_false (by omega))) rfl ?_ | refine op_y (y_lt rfl rfl rfl) rfl ?_
 refine op_nil ?_
 refine ent_then ?_
 refine cd_ift rfl ?_
 refine cd_skip ?_
 refine ent_then ?_
 refine cd_seq ?_
 refine cd_block ?_
 refine cd_drawL [0, 1, 2, 3, 4, 5, 6, 7, 8, 9, 10, 11] [0, 0, 0, 0, 3, 0, 4, 4, 2, 0, 0, 2] mixed_ (by kernel_rfl) ?_
 refine op_y (y_move rfl) rfl ?_
 refine op_y (y_move rfl) rfl ?_
 first | refine op_y (y_nil rfl) rfl ?_ | refine op_y (y_nili rfl) rfl ?_ | refine op_y (y_nilf rfl) rfl ?_
 first | refine op_y (y_fld0 Ffs2.fo_405_0 rfl) rfl ?_ | refine op_y (y_flda Ffs2.fo_405_0 rfl) rfl ?_
 apply op_lds Ffs2.sc_403 rfl rfl
 ·exact rm
 ·rfl
 ·(first | exact fun w h => h | exact fun w h => h.drop | (intro w h; apply Sat.only (h := h); exact sx))
 refine op_y (y_move rfl) rfl ?_
 apply op_mks4 (k := 1) Ffs2.sl_264 Ffs2.ze_22 rfl rfl rfl rfl
 ·first | rfl | omega
 ·decide
 ·omega
 ·omega
 ·omega
 ·(first | exact fun w h => h | exact fun w h => h.drop | (intro w h; apply Sat.only (h := h); exact sx))
 intro b29
 apply op_bslice4 Ffs2.sl_403 Ffs2.ze_264 rfl rfl rfl rfl rfl
 ·(first | ((try simp [fillL, splice, Value.cells, Nat.zero]) <;> rfl) | rfl)
 ·(first | exact fun w h => h | exact fun w h => h.drop | (intro w h; apply Sat.only (h := h); exact sx))
 intro b30
 apply op_append Ffs2.sl_403 Ffs2.ze_264 rfl rfl rfl (by decide) rfl
 ·exact rm
 ·(apply rds_all; exact rm)
 ·first | rfl | simp
 ·first | rfl | simp [ones]
 ·omega
 ·omega
 ·omega
 intro A31 c31
 first | refine op_y (y_nil rfl) rfl ?_ | refine op_y (y_nili rfl) rfl ?_ | refine op_y (y_nilf rfl) rfl ?_
 first | refine op_y (y_fld0 Ffs2.fo_405_0 rfl) rfl ?_ | refine op_y (y_flda Ffs2.fo_405_0 rfl) rfl ?_
 apply op_st1 Ffs2.sz_403 rfl rfl rfl
 ·exact rm
 ·rfl
 ·(first | ((try simp only [zz, splice, Nat.reduceAdd, Nat.zero_mul, Nat.zero]) <;> rfl) | rfl)
 refine op_nil ?_
 refine ent_block ?_
 refine ent_then ?_
 refine cd_region [0, 0, 0] ?_
 refine op_y (y_move rfl) rfl ?_
 first | refine op_y (y_mul rfl rfl (wi64 (by omega) (by omega))) rfl ?_ | refine op_y (y_mul rfl rfl rfl) rfl ?_
 refine op_y (y_assign rfl) rfl ?_
 refine op_nil ?_
 refine ent_round ?_
 refine cd_seq ?_
 refine cd_seq ?_
 refine cd_region [0, 0, 0, 1, 0, 0, 0] ?_
 refine op_y (y_move rfl) rfl ?_
 first | refine op_y (y_nil rfl) rfl ?_ | refine op_y (y_nili rfl) rfl ?_ | refine op_y (y_nilf rfl) rfl ?_
 first | refine op_y (y_fld0 Ffs2.fo_405_0 rfl) rfl ?_ | refine op_y (y_flda Ffs2.fo_405_0 rfl) rfl ?_
 apply op_ld Ffs2.sc_403 rfl rfl
 ·exact rm
 ·rfl
 refine op_y (y_len Ffs2.un_403 rfl) rfl ?_
 refine op_y (y_move rfl) rfl ?_
 first | refine op_y (y_lt rfl rfl (decide_eq_true (by omega))) rfl ?_ | refine op_y (y_lt rfl rfl (decide_eq_false (by omega))) rfl ?_ | refine op_y (y_lt rfl rfl rfl) rfl ?_
 refine op_nil ?_
 refine ent_then ?_
 refine cd_iff rfl ?_
 refine cd_exit ?_
 refine ent_thn_exit ?_
 refine ent_then_exit ?_
 refine ent_block_exit ?_
 refine ent_then ?_
 refine cd_seq ?_
 refine cd_region [0, 0, 0] ?_
 refine op_y (y_move rfl) rfl ?_
 refine op_y (y_assign rfl) rfl ?_
 refine op_y (y_assign rfl) rfl ?_
 refine op_nil ?_
 refine ent_then ?_
 refine cd_ret ?_
 refine ent_ret2 rfl rfl rfl ⟨_, ⟨b13, rfl, rfl⟩, fun w h => ?_⟩
 simp only [List.replicate, List.flatten_cons, List.flatten_nil, List.append_nil, List.nil_append, Nat.zero_add] at h
 obtain ⟨b, r, rfl, h1, h2, h3⟩ := ownS_pos (by decide) (Sat.rem (A := ownS 264 1 A31 1 c31 [.slice (some ⟨b29, 0, none⟩) 1 1]) (by exact rm) h)
 refine setI_shut Bits.nil (lb := b) (cap := c31) (b := b29) (r := r) ?_
 show Sat [pt b13 405 [.slice (some ⟨b, 0, none⟩) 1 c31, .int .i64 0], pt b 264 ([.slice (some ⟨b29, 0, none⟩) 1 1] ++ r), pt b29 22 [.int .u64 0]] c w
 apply Sat.only (h := h3)
 exact sx
end Go.Proofs.YtfkadaodnaaceaaGreatDoor
/- The calendar finds its first item's rank. -/
namespace Go.Proofs.YtfkadaodnaaceaaGreatDoor
open Go Go.SL
theorem Calq3.ca_191 : callable Tryz.prog 191 = true := by kernel_rfl
theorem Calq3.ca_274 : callable Tryz.prog 274 = true := by kernel_rfl
theorem Calq3.ca_290 : callable Tryz.prog 290 = true := by kernel_rfl
theorem Calq3.ca_298 : callable Tryz.prog 298 = true := by kernel_rfl
theorem Calq3.ca_299 : callable Tryz.prog 299 = true := by kernel_rfl
theorem Calq3.ca_300 : callable Tryz.prog 300 = true := by kernel_rfl
theorem Calq3.fo_361_0 : fieldOff Tryz.prog 361 0 = some 0 := by kernel_rfl
theorem Calq3.fo_361_2 : fieldOff Tryz.prog 361 2 = some 2 := by kernel_rfl
theorem Calq3.fo_361_4 : fieldOff Tryz.prog 361 4 = some 4 := by kernel_rfl
theorem Calq3.sc_22 : scalarT Tryz.prog 22 = true := by kernel_rfl
theorem Calq3.sc_284 : scalarT Tryz.prog 284 = true := by kernel_rfl
theorem Calq3.sc_354 : scalarT Tryz.prog 354 = true := by kernel_rfl
theorem Calq3.sz_62 : sizeK Tryz.prog 62 = some 3 := by kernel_rfl
theorem Calq3.un_3 : Tryz.prog.underlying 3 = some (.int .i64) := by kernel_rfl
theorem Calq3.un_22 : Tryz.prog.underlying 22 = some (.int .u64) := by kernel_rfl
theorem Calq3.ze_62 : zeroC Tryz.prog 62 = some [.int .u32 0, .int .u32 0, .int .u64 0] := by kernel_rfl
set_option maxRecDepth 100000
set_option maxHeartbeats 400000
theorem WI.dnil {Q : Nat → List (Nat × Pk)} {D F : List Nat} {m : PM} (wi : WI [] Q D F m) : D.length = 0 := by
 have : D = [] := List.eq_nil_iff_forall_not_mem.2 fun q hq => by
  obtain ⟨y, hy, _⟩ := (wi.mem_day (wi.dl q hq)).1 hq
  cases hy
 rw [this]; rfl
theorem WI.dcons {y : It} {W : List It} {Q : Nat → List (Nat × Pk)} {D F : List Nat} {m : PM} (wi : WI (y :: W) Q D F m) : D ≠ [] := fun e => by
 have := (wi.mem_day (Nat.mod_lt y.rank (by decide : 64 > 0))).2 ⟨y, by simp, rfl⟩
 rw [e] at this; cases this
/-- A window at b, of which all is y and so on. -/
structure HI (b : Nat) (all : List It) (x : TS) : Prop where
 wi : WI x.W x.Q x.D x.F x.m
 all : x.W ++ x.A = all
 w : ∀ z ∈ x.W, b ≤ z.rank ∧ z.rank < b + 64
 a : ∀ z ∈ x.A, b + 64 ≤ z.rank
theorem HI.first {r room : Nat} {rest : List It} {y : It} {x : TS} (h : TI r room (y :: rest) x) (ha : ∀ z ∈ x.A, r + 64 ≤ z.rank) (hr : r ≤ y.rank) (hy : y.rank < r + 64) : ∃ W2, x.W = y :: W2 := by
 have hall := h.all
 cases hW : x.W with
 | nil =>
  rw [hW, List.nil_append] at hall
  have := ha y (by rw [hall]; simp)
  omega
 | cons z W2 =>
  rw [hW, List.cons_append] at hall
  injection hall with h1 _
  exact ⟨W2, by rw [h1]⟩
theorem cHead_ct (c : Cx) (p pd pp pb pa room base k : Nat) (x0 : TS) (y : It) (rest : List It) (h0 : HI base (y :: rest) x0) (hs : SR (y :: rest)) (hlt : ∀ z ∈ y :: rest, z.rank < 18446744073709551616) (hb : base < 18446744073709551616) (hlen : (y :: rest).length ≤ room) (hroom : room ≤ 4096) :
 Ct Tryz.prog 288 #[.pointer (some ⟨p, 0, none⟩)] c [pt p 361 (cq pd pp pb pa room base), setI pd x0.D, poolC pp room x0.m, heapI pa x0.A room k, tabA]
  fun v L => ∃ x : TS, v = .tuple #[.int .u64 y.rank, .bool true] ∧ HI y.rank (y :: rest) x ∧ (∃ W2, x.W = y :: W2) ∧ L = [pt p 361 (cq pd pp pb pa room y.rank), setI pd x.D, poolC pp room x.m, heapI pa x.A room k, tabA] := by
 have hyr : y.rank < 18446744073709551616 := hlt y (by simp)
 refine ct_fn (args := [.pointer (some ⟨p, 0, none⟩)]) [(0, .pointer (some ⟨p, 0, none⟩))] Tryz.func288 rfl Tryz.ntmps288 rfl ⟨rfl, trivial⟩ ?_
 refine cd_seq ?_
 refine cd_region [0, 0] ?_
 refine op_y (y_assign rfl) rfl ?_
 refine op_y (y_assign rfl) rfl ?_
 refine op_nil ?_
 refine ent_then ?_
 refine cd_cut (α := Nat × TS) (fun z => HI z.1 (y :: rest) z.2 ∧ (∃ W2, z.2.W = y :: W2) ∧ z.1 < 18446744073709551616) (fun z => [(0, .pointer (some ⟨p, 0, none⟩))]) (fun z => [pt p 361 (cq pd pp pb pa room z.1), setI pd z.2.D, poolC pp room z.2.m, heapI pa z.2.A room k, tabA]) ?_ ?_
 ·skip
  obtain ⟨wi, hall, hw, ha⟩ := h0
  obtain ⟨W, A, Q, D, F, m⟩ := x0
  simp only at wi hall hw ha ⊢
  refine cd_seq ?_
  refine cd_region [0, 0, 0, 1, 2, 0] ?_
  refine op_y (y_move rfl) rfl ?_
  first | refine op_y (y_nil rfl) rfl ?_ | refine op_y (y_nili rfl) rfl ?_ | refine op_y (y_nilf rfl) rfl ?_
  first | refine op_y (y_fld0 Calq3.fo_361_0 rfl) rfl ?_ | refine op_y (y_flda Calq3.fo_361_0 rfl) rfl ?_
  apply op_ld Calq3.sc_354 rfl rfl
  ·exact rm
  ·rfl
  apply op_c Calq3.ca_298 rfl rfl (fun e he_ => fLen_ct e pd D)
  ·exact sx
  rintro _ _ ⟨rfl, rfl⟩ G_ hG_
  simp only [zn] at hG_; subst hG_
  cases W with
  | nil =>
   skip
   have hD := wi.dnil
   simp only [List.nil_append] at hall
   subst hall
   first | refine op_y (y_eq rfl rfl (eqT (by omega))) rfl ?_ | refine op_y (y_eq rfl rfl (eqF (by omega))) rfl ?_ | refine op_y (y_eq rfl rfl rfl) rfl ?_
   refine op_nil ?_
   refine ent_then ?_
   refine cd_ift rfl ?_
   refine cd_seq ?_
   refine cd_region [0, 0, 0, 1, 2, 0, 0, 0, 0, 2, 0, 2, 0] ?_
   refine op_y (y_move rfl) rfl ?_
   first | refine op_y (y_nil rfl) rfl ?_ | refine op_y (y_nili rfl) rfl ?_ | refine op_y (y_nilf rfl) rfl ?_
   first | refine op_y (y_fld Calq3.fo_361_4 rfl) rfl ?_ | refine op_y (y_flda Calq3.fo_361_4 rfl) rfl ?_
   apply op_ld Calq3.sc_284 rfl rfl
   ·exact rm
   ·rfl
   apply op_c Calq3.ca_274 rfl rfl (fun e he_ => hPeek_ct e pa room k (y :: rest))
   ·exact sx
   rintro _ _ ⟨rfl, rfl⟩ G_ hG_
   simp only [zn] at hG_; subst hG_
   refine op_y (y_move rfl) rfl ?_
   refine op_y (y_ext rfl rfl) rfl ?_
   refine op_y (y_ext rfl rfl) rfl ?_
   refine op_y (y_ext rfl rfl) rfl ?_
   refine op_alloc Calq3.ze_62 rfl fun b5 => ?_
   refine op_y (y_assign rfl) rfl ?_
   apply op_sta Calq3.sz_62 rfl rfl rfl rfl
   ·exact rm
   ·simp
   ·(first | ((try simp only [zz, splice, Nat.reduceAdd, Nat.zero_mul, Pk.cs]) <;> rfl) | rfl)
   refine op_y (y_assign rfl) rfl ?_
   refine op_nil ?_
   refine ent_then ?_
   refine cd_seq ?_
   refine cd_seq ?_
   refine cd_region [0, 0] ?_
   refine op_y (y_move rfl) rfl ?_
   first | refine op_y (y_not (b := true) (r := false) rfl rfl) rfl ?_ | refine op_y (y_not (b := false) (r := true) rfl rfl) rfl ?_ | refine op_y (y_not rfl rfl) rfl ?_
   refine op_nil ?_
   refine ent_then ?_
   refine cd_iff rfl ?_
   refine cd_skip ?_
   refine ent_then ?_
   refine cd_region [0, 0, 2] ?_
   refine op_y (y_move rfl) rfl ?_
   refine op_y (y_move rfl) rfl ?_
   have t0 : TI y.rank room (y :: rest) ⟨[], y :: rest, Q, D, F, m⟩ := ⟨wi, rfl, (fun z hz => by cases hz), fun z hz => by
    rcases List.mem_cons.1 hz with rfl | hz
    ·exact Nat.le_refl _
    ·exact (List.pairwise_cons.1 hs).1 z hz⟩
   apply op_c Calq3.ca_299 rfl rfl (fun e he_ => cTurn_ct e p pd pp pb pa room base y.rank k ⟨[], y :: rest, Q, D, F, m⟩ (y :: rest) t0 hs hlt hyr hlen hroom)
   ·exact sx
   rintro _ _ ⟨x1, rfl, hx1, ha1, rfl⟩ G_ hG_
   simp only [zn] at hG_; subst hG_
   refine op_nil ?_
   refine ent_join (y.rank, x1) ⟨⟨hx1.wi, hx1.all, hx1.w, ha1⟩, HI.first hx1 ha1 (Nat.le_refl _) (by omega), hyr⟩ ⟨rfl, trivial⟩ (fun w h => ?_)
   apply Sat.only (h := h)
   exact sx
  | cons z W2 =>
   skip
   have hD : D.length ≠ 0 := by
    have := wi.dcons
    simpa using this
   rw [List.cons_append] at hall
   injection hall with hz hr
   subst hz
   first | refine op_y (y_eq rfl rfl (eqT (by omega))) rfl ?_ | refine op_y (y_eq rfl rfl (eqF (by omega))) rfl ?_ | refine op_y (y_eq rfl rfl rfl) rfl ?_
   refine op_nil ?_
   refine ent_then ?_
   refine cd_iff rfl ?_
   refine cd_skip ?_
   refine ent_join (base, ⟨z :: W2, A, Q, D, F, m⟩) ⟨⟨wi, by simp only [List.cons_append, hr], hw, ha⟩, ⟨W2, rfl⟩, hb⟩ ⟨rfl, trivial⟩ (fun w h => ?_)
   apply Sat.only (h := h)
   exact sx
 ·skip
  rintro ⟨b, ⟨W, A, Q, D, F, m⟩⟩ ⟨⟨wi, hall, hw, ha⟩, ⟨W2, hW⟩, hb2⟩
  simp only at wi hall hw ha hW hb2 ⊢
  subst hW
  have hb64 : b % 64 < 64 := Nat.mod_lt _ (by decide)
  have hsW : SR (y :: W2) := by rw [← hall] at hs; exact hs.left
  refine cd_seq ?_
  refine cd_region [0, 0, 0, 0, 1, 2, 0] ?_
  refine op_y (y_move rfl) rfl ?_
  refine op_y (y_move rfl) rfl ?_
  first | refine op_y (y_nil rfl) rfl ?_ | refine op_y (y_nili rfl) rfl ?_ | refine op_y (y_nilf rfl) rfl ?_
  first | refine op_y (y_fld Calq3.fo_361_2 rfl) rfl ?_ | refine op_y (y_flda Calq3.fo_361_2 rfl) rfl ?_
  apply op_ld Calq3.sc_22 rfl rfl
  ·exact rm
  ·rfl
  apply op_c Calq3.ca_290 rfl rfl (fun e he_ => cDay_ct e p pd pp pb pa room b b D hb2)
  ·exact sx
  rintro _ _ ⟨rfl, rfl⟩ G_ hG_
  simp only [zn] at hG_; subst hG_
  refine op_y (y_assign rfl) rfl ?_
  refine op_nil ?_
  refine ent_then ?_
  refine cd_seq ?_
  refine cd_region [0, 0, 0, 1, 0, 2, 0, 0, 0, 0, 0] ?_
  refine op_y (y_move rfl) rfl ?_
  first | refine op_y (y_nil rfl) rfl ?_ | refine op_y (y_nili rfl) rfl ?_ | refine op_y (y_nilf rfl) rfl ?_
  first | refine op_y (y_fld0 Calq3.fo_361_0 rfl) rfl ?_ | refine op_y (y_flda Calq3.fo_361_0 rfl) rfl ?_
  apply op_ld Calq3.sc_354 rfl rfl
  ·exact rm
  ·rfl
  refine op_y (y_move rfl) rfl ?_
  apply op_c Calq3.ca_300 rfl rfl (fun e he_ => fFrom_ct e pd (b % 64) D hb64 wi.dcons wi.dlen)
  ·exact sx
  rintro _ _ ⟨j, rfl, rfl, hj, hj64, hmin⟩ G_ hG_
  simp only [zn] at hG_; subst hG_
  refine op_y (y_move rfl) rfl ?_
  refine op_y (y_ext rfl rfl) rfl ?_
  refine op_y (y_ext rfl rfl) rfl ?_
  refine op_y (y_assign rfl) rfl ?_
  refine op_y (y_assign rfl) rfl ?_
  refine op_nil ?_
  refine ent_then ?_
  refine cd_seq ?_
  refine cd_region [0, 0, 0, 1, 2, 0] ?_
  refine op_y (y_move rfl) rfl ?_
  first | refine op_y (y_nil rfl) rfl ?_ | refine op_y (y_nili rfl) rfl ?_ | refine op_y (y_nilf rfl) rfl ?_
  first | refine op_y (y_fld0 Calq3.fo_361_0 rfl) rfl ?_ | refine op_y (y_flda Calq3.fo_361_0 rfl) rfl ?_
  apply op_ld Calq3.sc_354 rfl rfl
  ·exact rm
  ·rfl
  apply op_c Calq3.ca_191 rfl rfl (fun e he_ => fSize_ct e pd D)
  ·exact sx
  rintro _ _ ⟨rfl, rfl⟩ G_ hG_
  simp only [zn] at hG_; subst hG_
  have hfirst := wi.first hsW hw hj hmin
  by_cases hbe : y.rank = b
  ·skip
   refine op_y (y_assign rfl) rfl ?_
   refine op_nil ?_
   refine ent_then ?_
   refine cd_seq ?_
   refine cd_draw ([]) [0, 1, 2, 3, 4, 5, 6, 7, 8, 9, 10, 11, 12, 13] [0, 0, 0, 1, 0, 0, 0, 0, 0, 0, 0, 0, 0, 0] mixed_ (by kernel_rfl) ?_
   refine op_y (y_move rfl) rfl ?_
   first | refine op_y (y_nil rfl) rfl ?_ | refine op_y (y_nili rfl) rfl ?_ | refine op_y (y_nilf rfl) rfl ?_
   first | refine op_y (y_fld Calq3.fo_361_2 rfl) rfl ?_ | refine op_y (y_flda Calq3.fo_361_2 rfl) rfl ?_
   apply op_ld Calq3.sc_22 rfl rfl
   ·exact rm
   ·rfl
   refine op_y (y_move rfl) rfl ?_
   refine op_y (y_move rfl) rfl ?_
   first | refine op_y (y_sub rfl rfl (wi64 (by omega) (by omega))) rfl ?_ | refine op_y (y_sub rfl rfl rfl) rfl ?_
   refine op_y (y_move rfl) rfl ?_
   first | refine op_y (y_add rfl rfl (wi64 (by omega) (by omega))) rfl ?_ | refine op_y (y_add rfl rfl rfl) rfl ?_
   refine op_y (y_move rfl) rfl ?_
   refine op_y (y_remn rfl rfl (by omega) (by decide)) rfl ?_
   refine op_y (y_conv Calq3.un_3 Calq3.un_22 rfl (r := (((j + 64 - b % 64) % 64 : Nat) : Int)) (by rw [IntKind.wrap_u64]; omega)) rfl ?_
   refine op_y (y_add (r := (y.rank : Int)) rfl rfl (by rw [IntKind.wrap_u64]; omega)) rfl ?_
   refine op_y (y_assign rfl) rfl ?_
   refine op_nil ?_
   refine ent_then ?_
   refine cd_seq ?_
   refine cd_seq ?_
   refine cd_region [0, 0, 0, 0, 1, 0] ?_
   refine op_y (y_move rfl) rfl ?_
   refine op_y (y_move rfl) rfl ?_
   first | refine op_y (y_nil rfl) rfl ?_ | refine op_y (y_nili rfl) rfl ?_ | refine op_y (y_nilf rfl) rfl ?_
   first | refine op_y (y_fld Calq3.fo_361_2 rfl) rfl ?_ | refine op_y (y_flda Calq3.fo_361_2 rfl) rfl ?_
   apply op_ld Calq3.sc_22 rfl rfl
   ·exact rm
   ·rfl
   first | refine op_y (y_ne rfl rfl (neT (by omega))) rfl ?_ | refine op_y (y_ne rfl rfl (neF (by omega))) rfl ?_ | refine op_y (y_ne rfl rfl rfl) rfl ?_
   refine op_nil ?_
   refine ent_then ?_
   refine cd_iff rfl ?_
   refine cd_skip ?_
   refine ent_then ?_
   refine cd_seq ?_
   refine cd_region [0, 0, 0] ?_
   refine op_y (y_move rfl) rfl ?_
   refine op_y (y_assign rfl) rfl ?_
   refine op_y (y_assign rfl) rfl ?_
   refine op_nil ?_
   refine ent_then ?_
   refine cd_ret ?_
   subst hbe
   refine ent_ret2 rfl rfl rfl ⟨_, ⟨⟨y :: W2, A, Q, D, F, m⟩, rfl, ⟨wi, hall, hw, ha⟩, ⟨W2, rfl⟩, rfl⟩, fun w h => ?_⟩
   apply Sat.only (h := h)
   exact sx
  ·skip
   refine op_y (y_assign rfl) rfl ?_
   refine op_nil ?_
   refine ent_then ?_
   refine cd_seq ?_
   refine cd_draw ([]) [0, 1, 2, 3, 4, 5, 6, 7, 8, 9, 10, 11, 12, 13] [0, 0, 0, 1, 0, 0, 0, 0, 0, 0, 0, 0, 0, 0] mixed_ (by kernel_rfl) ?_
   refine op_y (y_move rfl) rfl ?_
   first | refine op_y (y_nil rfl) rfl ?_ | refine op_y (y_nili rfl) rfl ?_ | refine op_y (y_nilf rfl) rfl ?_
   first | refine op_y (y_fld Calq3.fo_361_2 rfl) rfl ?_ | refine op_y (y_flda Calq3.fo_361_2 rfl) rfl ?_
   apply op_ld Calq3.sc_22 rfl rfl
   ·exact rm
   ·rfl
   refine op_y (y_move rfl) rfl ?_
   refine op_y (y_move rfl) rfl ?_
   first | refine op_y (y_sub rfl rfl (wi64 (by omega) (by omega))) rfl ?_ | refine op_y (y_sub rfl rfl rfl) rfl ?_
   refine op_y (y_move rfl) rfl ?_
   first | refine op_y (y_add rfl rfl (wi64 (by omega) (by omega))) rfl ?_ | refine op_y (y_add rfl rfl rfl) rfl ?_
   refine op_y (y_move rfl) rfl ?_
   refine op_y (y_remn rfl rfl (by omega) (by decide)) rfl ?_
   refine op_y (y_conv Calq3.un_3 Calq3.un_22 rfl (r := (((j + 64 - b % 64) % 64 : Nat) : Int)) (by rw [IntKind.wrap_u64]; omega)) rfl ?_
   refine op_y (y_add (r := (y.rank : Int)) rfl rfl (by rw [IntKind.wrap_u64]; omega)) rfl ?_
   refine op_y (y_assign rfl) rfl ?_
   refine op_nil ?_
   refine ent_then ?_
   refine cd_seq ?_
   refine cd_seq ?_
   refine cd_region [0, 0, 0, 0, 1, 0] ?_
   refine op_y (y_move rfl) rfl ?_
   refine op_y (y_move rfl) rfl ?_
   first | refine op_y (y_nil rfl) rfl ?_ | refine op_y (y_nili rfl) rfl ?_ | refine op_y (y_nilf rfl) rfl ?_
   first | refine op_y (y_fld Calq3.fo_361_2 rfl) rfl ?_ | refine op_y (y_flda Calq3.fo_361_2 rfl) rfl ?_
   apply op_ld Calq3.sc_22 rfl rfl
   ·exact rm
   ·rfl
   first | refine op_y (y_ne rfl rfl (neT (by omega))) rfl ?_ | refine op_y (y_ne rfl rfl (neF (by omega))) rfl ?_ | refine op_y (y_ne rfl rfl rfl) rfl ?_
   refine op_nil ?_
   refine ent_then ?_
   refine cd_ift rfl ?_
   refine cd_region [0, 0, 2] ?_
   refine op_y (y_move rfl) rfl ?_
   refine op_y (y_move rfl) rfl ?_
   have hwy := hw y (by simp)
   have t0 : TI y.rank room (y :: rest) ⟨y :: W2, A, Q, D, F, m⟩ := ⟨wi, hall, (fun z hz => by
    have h1 := hw z hz
    have h2 : y.rank ≤ z.rank := by
     rcases List.mem_cons.1 hz with rfl | hz
     ·exact Nat.le_refl _
     ·exact (List.pairwise_cons.1 hsW).1 z hz
    omega), fun z hz => by have := ha z hz; omega⟩
   apply op_c Calq3.ca_299 rfl rfl (fun e he_ => cTurn_ct e p pd pp pb pa room b y.rank k ⟨y :: W2, A, Q, D, F, m⟩ (y :: rest) t0 hs hlt hyr hlen hroom)
   ·exact sx
   rintro _ _ ⟨x1, rfl, hx1, ha1, rfl⟩ G_ hG_
   simp only [zn] at hG_; subst hG_
   refine op_nil ?_
   refine ent_then ?_
   refine cd_seq ?_
   refine cd_region [0, 0, 0] ?_
   refine op_y (y_move rfl) rfl ?_
   refine op_y (y_assign rfl) rfl ?_
   refine op_y (y_assign rfl) rfl ?_
   refine op_nil ?_
   refine ent_then ?_
   refine cd_ret ?_
   refine ent_ret2 rfl rfl rfl ⟨_, ⟨x1, rfl, ⟨hx1.wi, hx1.all, hx1.w, ha1⟩, HI.first hx1 ha1 (Nat.le_refl _) (by omega), rfl⟩, fun w h => ?_⟩
   apply Sat.only (h := h)
   exact sx
end Go.Proofs.YtfkadaodnaaceaaGreatDoor
