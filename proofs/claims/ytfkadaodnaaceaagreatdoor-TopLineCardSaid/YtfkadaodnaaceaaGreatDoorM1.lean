/- TopLine answers true at every input, and its arguments read as they did: part 1; conditions: the row's own. -/
import Derived.Test.YtfkadaodnaaceaaGreatDoorProg
import Derived.Lib.TrailingZeros
import Derived.Shelf.Spec.TrailingZeros
import Derived.Test.YtfkadaodnaaceaaGreatDoorM0
set_option linter.all false
set_option linter.unusedVariables false
set_option linter.unusedSimpArgs false
/- The program draws the order of a region. -/
namespace Go.Proofs.YtfkadaodnaaceaaGreatDoor
open Go Go.SL
theorem mixed_ : Tryz.prog.follows .mixedOrders = true := by kernel_rfl
end Go.Proofs.YtfkadaodnaaceaaGreatDoor
/- Sums and products that stop at the greatest number. -/
namespace Go.Proofs.YtfkadaodnaaceaaGreatDoor
open Go Go.SL
theorem Sat.ca_109 : callable Tryz.prog 109 = true := by kernel_rfl
theorem Sat.ca_117 : callable Tryz.prog 117 = true := by kernel_rfl
theorem Sat.ca_212 : callable Tryz.prog 212 = true := by kernel_rfl
theorem Sat.ex_170 : externIs Tryz.prog 170 "math/bits.Add64" = true := by kernel_rfl
set_option maxRecDepth 100000
set_option maxHeartbeats 1000000
def satAdd (a b : Nat) : Nat := if a + b < 18446744073709551616 then a + b else 18446744073709551615
def satMul (a b : Nat) : Nat := if a * b < 18446744073709551616 then a * b else 18446744073709551615
theorem satAdd_lt (a b : Nat) : satAdd a b < 18446744073709551616 := by unfold satAdd; split <;> omega
theorem satMul_lt (a b : Nat) : satMul a b < 18446744073709551616 := by unfold satMul; split <;> omega
theorem satAdd_ct (c : Cx) (a b : Nat) (ha : a < 18446744073709551616) (hb : b < 18446744073709551616) : Ct Tryz.prog 109 #[.int .u64 a, .int .u64 b] c [] fun v L => v = .int .u64 (satAdd a b) ∧ L = [] := by
 refine ct_fn (args := [.int .u64 a, .int .u64 b]) [(0, .int .u64 a), (1, .int .u64 b)] Tryz.func109 rfl Tryz.ntmps109 rfl ⟨rfl, rfl, trivial⟩ ?_
 refine cd_seq ?_
 refine cd_region [0] ?_
 refine op_y (y_assign rfl) rfl ?_
 refine op_nil ?_
 refine ent_then ?_
 refine cd_seq ?_
 refine cd_region [0, 0, 2, 0, 0, 0, 0, 0] ?_
 refine op_y (y_move rfl) rfl ?_
 refine op_y (y_move rfl) rfl ?_
 refine op_ye rfl (y_add64 Sat.ex_170 rfl rfl rfl) ?_
 by_cases h : a + b < 18446744073709551616
 ·skip
  refine op_y (y_move rfl) rfl ?_
  refine op_y (y_ext rfl rfl) rfl ?_
  refine op_y (y_ext rfl rfl) rfl ?_
  refine op_y (y_assign rfl) rfl ?_
  refine op_y (y_assign rfl) rfl ?_
  refine op_nil ?_
  refine ent_then ?_
  refine cd_seq ?_
  refine cd_seq ?_
  refine cd_region [0, 0] ?_
  refine op_y (y_move rfl) rfl ?_
  first | refine op_y (y_gt rfl rfl (decide_eq_true (by omega))) rfl ?_ | refine op_y (y_gt rfl rfl (decide_eq_false (by omega))) rfl ?_ | refine op_y (y_gt rfl rfl rfl) rfl ?_
  refine op_nil ?_
  refine ent_then ?_
  refine cd_iff rfl ?_
  refine cd_skip ?_
  refine ent_then ?_
  refine cd_seq ?_
  refine cd_region [0, 0] ?_
  refine op_y (y_move rfl) rfl ?_
  refine op_y (y_assign rfl) rfl ?_
  refine op_nil ?_
  refine ent_then ?_
  refine cd_ret ?_
  refine ent_ret1 rfl rfl ⟨_, ⟨by rw [Nat.mod_eq_of_lt h, satAdd, if_pos h]; rfl, rfl⟩, fun w h => h⟩
 ·skip
  refine op_y (y_move rfl) rfl ?_
  refine op_y (y_ext rfl rfl) rfl ?_
  refine op_y (y_ext rfl rfl) rfl ?_
  refine op_y (y_assign rfl) rfl ?_
  refine op_y (y_assign rfl) rfl ?_
  refine op_nil ?_
  refine ent_then ?_
  refine cd_seq ?_
  refine cd_seq ?_
  refine cd_region [0, 0] ?_
  refine op_y (y_move rfl) rfl ?_
  first | refine op_y (y_gt rfl rfl (decide_eq_true (by omega))) rfl ?_ | refine op_y (y_gt rfl rfl (decide_eq_false (by omega))) rfl ?_ | refine op_y (y_gt rfl rfl rfl) rfl ?_
  refine op_nil ?_
  refine ent_then ?_
  refine cd_ift rfl ?_
  refine cd_seq ?_
  refine cd_region [0] ?_
  refine op_y (y_assign rfl) rfl ?_
  refine op_nil ?_
  refine ent_then ?_
  refine cd_ret ?_
  refine ent_thn_ret ?_
  refine ent_ret1 rfl rfl ⟨_, ⟨by rw [satAdd, if_neg h]; rfl, rfl⟩, fun w h => h⟩
theorem mul_le32 {a b : Nat} (ha : a < 4294967296) (hb : b < 4294967296) : a * b ≤ 18446744065119617025 := by
 have := Nat.mul_le_mul (Nat.le_sub_one_of_lt ha) (Nat.le_sub_one_of_lt hb)
 simpa using this
theorem mul64_ct (c : Cx) (x y : Nat) (hx : x < 18446744073709551616) (hy : y < 18446744073709551616) : Ct Tryz.prog 117 #[.int .u64 x, .int .u64 y] c []
 fun v L => v = .tuple #[.int .u64 ((x * y / 18446744073709551616 : Nat) : Int), .int .u64 ((x * y % 18446744073709551616 : Nat) : Int)] ∧ L = [] := by
 refine ct_fn (args := [.int .u64 x, .int .u64 y]) [(0, .int .u64 x), (1, .int .u64 y)] Tryz.func117 rfl Tryz.ntmps117 rfl ⟨rfl, rfl, trivial⟩ ?_
 obtain ⟨x0, ex0⟩ : ∃ x0, x0 = x % 4294967296 := ⟨_, rfl⟩
 obtain ⟨x1, ex1⟩ : ∃ x1, x1 = x / 4294967296 := ⟨_, rfl⟩
 obtain ⟨y0, ey0⟩ : ∃ y0, y0 = y % 4294967296 := ⟨_, rfl⟩
 obtain ⟨y1, ey1⟩ : ∃ y1, y1 = y / 4294967296 := ⟨_, rfl⟩
 have hx0 : x0 < 4294967296 := by omega
 have hx1 : x1 < 4294967296 := by omega
 have hy0 : y0 < 4294967296 := by omega
 have hy1 : y1 < 4294967296 := by omega
 have bp := mul_le32 hx0 hy0
 have bq := mul_le32 hx1 hy0
 have br := mul_le32 hx0 hy1
 have bs := mul_le32 hx1 hy1
 obtain ⟨p, ep⟩ : ∃ p, p = x0 * y0 := ⟨_, rfl⟩
 obtain ⟨q, eq⟩ : ∃ q, q = x1 * y0 := ⟨_, rfl⟩
 obtain ⟨r, er⟩ : ∃ r, r = x0 * y1 := ⟨_, rfl⟩
 obtain ⟨s, es⟩ : ∃ s, s = x1 * y1 := ⟨_, rfl⟩
 have hxy : x * y = s * 18446744073709551616 + (q + r) * 4294967296 + p := by
  have e1 : x = x1 * 4294967296 + x0 := by omega
  have e2 : y = y1 * 4294967296 + y0 := by omega
  rw [e1, e2, es, eq, er, ep]
  grind
 rw [← ep] at bp
 rw [← eq] at bq
 rw [← er] at br
 rw [← es] at bs
 have cp : ((x0 : Int) * y0) = (p : Int) := by rw [ep]; simp
 have cq : ((x1 : Int) * y0) = (q : Int) := by rw [eq]; simp
 have cr : ((x0 : Int) * y1) = (r : Int) := by rw [er]; simp
 have cs : ((x1 : Int) * y1) = (s : Int) := by rw [es]; simp
 have cxy : ((x : Int) * y) = ((x * y : Nat) : Int) := by simp
 refine cd_seq ?_
 refine cd_region [0, 0] ?_
 refine op_y (y_assign rfl) rfl ?_
 refine op_y (y_assign rfl) rfl ?_
 refine op_nil ?_
 refine ent_then ?_
 refine cd_seq ?_
 refine cd_region [0, 0, 0] ?_
 refine op_y (y_move rfl) rfl ?_
 refine op_y ((ex0 ▸ y_low32 rfl rfl hx)) rfl ?_
 refine op_y (y_assign rfl) rfl ?_
 refine op_nil ?_
 refine ent_then ?_
 refine cd_seq ?_
 refine cd_region [0, 0, 0] ?_
 refine op_y (y_move rfl) rfl ?_
 refine op_y ((ex1 ▸ y_hi32 rfl rfl)) rfl ?_
 refine op_y (y_assign rfl) rfl ?_
 refine op_nil ?_
 refine ent_then ?_
 refine cd_seq ?_
 refine cd_region [0, 0, 0] ?_
 refine op_y (y_move rfl) rfl ?_
 refine op_y ((ey0 ▸ y_low32 rfl rfl hy)) rfl ?_
 refine op_y (y_assign rfl) rfl ?_
 refine op_nil ?_
 refine ent_then ?_
 refine cd_seq ?_
 refine cd_region [0, 0, 0] ?_
 refine op_y (y_move rfl) rfl ?_
 refine op_y ((ey1 ▸ y_hi32 rfl rfl)) rfl ?_
 refine op_y (y_assign rfl) rfl ?_
 refine op_nil ?_
 refine ent_then ?_
 refine cd_seq ?_
 refine cd_region [0, 0, 0, 0] ?_
 refine op_y (y_move rfl) rfl ?_
 refine op_y (y_move rfl) rfl ?_
 refine op_y (y_mul (r := (p : Int)) rfl rfl (by rw [cp, IntKind.wrap_u64]; omega)) rfl ?_
 refine op_y (y_assign rfl) rfl ?_
 refine op_nil ?_
 refine ent_then ?_
 refine cd_seq ?_
 refine cd_region [0, 0, 0, 0, 0, 0, 0] ?_
 refine op_y (y_move rfl) rfl ?_
 refine op_y (y_move rfl) rfl ?_
 refine op_y (y_mul (r := (q : Int)) rfl rfl (by rw [cq, IntKind.wrap_u64]; omega)) rfl ?_
 refine op_y (y_move rfl) rfl ?_
 refine op_y (y_hi32 (a := p) rfl rfl) rfl ?_
 refine op_y (y_add (r := ((q + p / 4294967296 : Nat) : Int)) rfl rfl (by rw [IntKind.wrap_u64]; omega)) rfl ?_
 refine op_y (y_assign rfl) rfl ?_
 refine op_nil ?_
 refine ent_then ?_
 refine cd_seq ?_
 refine cd_region [0, 0, 0] ?_
 refine op_y (y_move rfl) rfl ?_
 refine op_y (y_low32 (a := q + p / 4294967296) rfl rfl (by omega)) rfl ?_
 refine op_y (y_assign rfl) rfl ?_
 refine op_nil ?_
 refine ent_then ?_
 refine cd_seq ?_
 refine cd_region [0, 0, 0] ?_
 refine op_y (y_move rfl) rfl ?_
 refine op_y (y_hi32 (a := q + p / 4294967296) rfl rfl) rfl ?_
 refine op_y (y_assign rfl) rfl ?_
 refine op_nil ?_
 refine ent_then ?_
 refine cd_seq ?_
 refine cd_region [0, 0, 0, 0, 0, 0] ?_
 refine op_y (y_move rfl) rfl ?_
 refine op_y (y_move rfl) rfl ?_
 refine op_y (y_move rfl) rfl ?_
 refine op_y (y_mul (r := (r : Int)) rfl rfl (by rw [cr, IntKind.wrap_u64]; omega)) rfl ?_
 refine op_y (y_add (r := (((q + p / 4294967296) % 4294967296 + r : Nat) : Int)) rfl rfl (by rw [IntKind.wrap_u64]; omega)) rfl ?_
 refine op_y (y_assign rfl) rfl ?_
 refine op_nil ?_
 refine ent_then ?_
 refine cd_seq ?_
 refine cd_region [0, 0, 0, 0, 0, 0, 0, 0, 0] ?_
 refine op_y (y_move rfl) rfl ?_
 refine op_y (y_move rfl) rfl ?_
 refine op_y (y_mul (r := (s : Int)) rfl rfl (by rw [cs, IntKind.wrap_u64]; omega)) rfl ?_
 refine op_y (y_move rfl) rfl ?_
 refine op_y (y_add (r := ((s + (q + p / 4294967296) / 4294967296 : Nat) : Int)) rfl rfl (by rw [IntKind.wrap_u64]; omega)) rfl ?_
 refine op_y (y_move rfl) rfl ?_
 refine op_y (y_hi32 (a := (q + p / 4294967296) % 4294967296 + r) rfl rfl) rfl ?_
 refine op_y (y_add (r := ((x * y / 18446744073709551616 : Nat) : Int)) rfl rfl (by rw [IntKind.wrap_u64, hxy]; omega)) rfl ?_
 refine op_y (y_assign rfl) rfl ?_
 refine op_nil ?_
 refine ent_then ?_
 refine cd_seq ?_
 refine cd_region [0, 0, 0, 0] ?_
 refine op_y (y_move rfl) rfl ?_
 refine op_y (y_move rfl) rfl ?_
 refine op_y (y_mul (r := ((x * y % 18446744073709551616 : Nat) : Int)) rfl rfl (by rw [cxy, IntKind.wrap_u64]; omega)) rfl ?_
 refine op_y (y_assign rfl) rfl ?_
 refine op_nil ?_
 refine ent_then ?_
 refine cd_ret ?_
 refine ent_ret2 rfl rfl rfl ⟨_, ⟨rfl, rfl⟩, fun w h => h⟩
theorem satMul_ct (c : Cx) (a b : Nat) (ha : a < 18446744073709551616) (hb : b < 18446744073709551616) : Ct Tryz.prog 212 #[.int .u64 a, .int .u64 b] c [] fun v L => v = .int .u64 (satMul a b) ∧ L = [] := by
 refine ct_fn (args := [.int .u64 a, .int .u64 b]) [(0, .int .u64 a), (1, .int .u64 b)] Tryz.func212 rfl Tryz.ntmps212 rfl ⟨rfl, rfl, trivial⟩ ?_
 refine cd_seq ?_
 refine cd_region [0] ?_
 refine op_y (y_assign rfl) rfl ?_
 refine op_nil ?_
 refine ent_then ?_
 refine cd_seq ?_
 refine cd_region [0, 0, 2, 0, 0, 0, 0, 0] ?_
 refine op_y (y_move rfl) rfl ?_
 refine op_y (y_move rfl) rfl ?_
 apply op_c Sat.ca_117 rfl rfl (fun e he_ => mul64_ct e a b ha hb)
 ·exact sx
 rintro _ _ ⟨rfl, rfl⟩ G_ hG_
 simp only [zn] at hG_; subst hG_
 by_cases h : a * b < 18446744073709551616
 ·skip
  refine op_y (y_move rfl) rfl ?_
  refine op_y (y_ext rfl rfl) rfl ?_
  refine op_y (y_ext rfl rfl) rfl ?_
  refine op_y (y_assign rfl) rfl ?_
  refine op_y (y_assign rfl) rfl ?_
  refine op_nil ?_
  refine ent_then ?_
  refine cd_seq ?_
  refine cd_seq ?_
  refine cd_region [0, 0] ?_
  refine op_y (y_move rfl) rfl ?_
  first | refine op_y (y_gt rfl rfl (decide_eq_true (by omega))) rfl ?_ | refine op_y (y_gt rfl rfl (decide_eq_false (by omega))) rfl ?_ | refine op_y (y_gt rfl rfl rfl) rfl ?_
  refine op_nil ?_
  refine ent_then ?_
  refine cd_iff rfl ?_
  refine cd_skip ?_
  refine ent_then ?_
  refine cd_seq ?_
  refine cd_region [0, 0] ?_
  refine op_y (y_move rfl) rfl ?_
  refine op_y (y_assign rfl) rfl ?_
  refine op_nil ?_
  refine ent_then ?_
  refine cd_ret ?_
  refine ent_ret1 rfl rfl ⟨_, ⟨by rw [Nat.mod_eq_of_lt h, satMul, if_pos h]; rfl, rfl⟩, fun w h => h⟩
 ·skip
  refine op_y (y_move rfl) rfl ?_
  refine op_y (y_ext rfl rfl) rfl ?_
  refine op_y (y_ext rfl rfl) rfl ?_
  refine op_y (y_assign rfl) rfl ?_
  refine op_y (y_assign rfl) rfl ?_
  refine op_nil ?_
  refine ent_then ?_
  refine cd_seq ?_
  refine cd_seq ?_
  refine cd_region [0, 0] ?_
  refine op_y (y_move rfl) rfl ?_
  first | refine op_y (y_gt rfl rfl (decide_eq_true (by omega))) rfl ?_ | refine op_y (y_gt rfl rfl (decide_eq_false (by omega))) rfl ?_ | refine op_y (y_gt rfl rfl rfl) rfl ?_
  refine op_nil ?_
  refine ent_then ?_
  refine cd_ift rfl ?_
  refine cd_seq ?_
  refine cd_region [0] ?_
  refine op_y (y_assign rfl) rfl ?_
  refine op_nil ?_
  refine ent_then ?_
  refine cd_ret ?_
  refine ent_thn_ret ?_
  refine ent_ret1 rfl rfl ⟨_, ⟨by rw [satMul, if_neg h]; rfl, rfl⟩, fun w h => h⟩
theorem satMulAdd_ct (c : Cx) (a b d : Nat) (ha : a < 18446744073709551616) (hb : b < 18446744073709551616) (hd : d < 18446744073709551616) : Ct Tryz.prog 171 #[.int .u64 a, .int .u64 b, .int .u64 d] c [] fun v L => v = .int .u64 (satAdd a (satMul b d)) ∧ L = [] := by
 refine ct_fn (args := [.int .u64 a, .int .u64 b, .int .u64 d]) [(0, .int .u64 a), (1, .int .u64 b), (2, .int .u64 d)] Tryz.func171 rfl Tryz.ntmps171 rfl ⟨rfl, rfl, rfl, trivial⟩ ?_
 refine cd_seq ?_
 refine cd_region [0] ?_
 refine op_y (y_assign rfl) rfl ?_
 refine op_nil ?_
 refine ent_then ?_
 refine cd_seq ?_
 refine cd_region [0, 0, 0, 2, 2, 0] ?_
 refine op_y (y_move rfl) rfl ?_
 refine op_y (y_move rfl) rfl ?_
 refine op_y (y_move rfl) rfl ?_
 apply op_c Sat.ca_212 rfl rfl (fun e he_ => satMul_ct e b d hb hd)
 ·exact sx
 rintro _ _ ⟨rfl, rfl⟩ G_ hG_
 simp only [zn] at hG_; subst hG_
 apply op_c Sat.ca_109 rfl rfl (fun e he_ => satAdd_ct e a _ ha (satMul_lt b d))
 ·exact sx
 rintro _ _ ⟨rfl, rfl⟩ G_ hG_
 simp only [zn] at hG_; subst hG_
 refine op_y (y_assign rfl) rfl ?_
 refine op_nil ?_
 refine ent_then ?_
 refine cd_ret ?_
 refine ent_ret1 rfl rfl ⟨_, ⟨rfl, rfl⟩, fun w h => h⟩
end Go.Proofs.YtfkadaodnaaceaaGreatDoor
/- The table of flows, where each number lies at its own place. -/
namespace Go.Proofs.YtfkadaodnaaceaaGreatDoor
open Go Go.SL
theorem Flow.ag_305 : aggK Tryz.prog 305 = some 3 := by kernel_rfl
theorem Flow.ca_193 : callable Tryz.prog 193 = true := by kernel_rfl
theorem Flow.ca_194 : callable Tryz.prog 194 = true := by kernel_rfl
theorem Flow.ca_221 : callable Tryz.prog 221 = true := by kernel_rfl
theorem Flow.fo_368_0 : fieldOff Tryz.prog 368 0 = some 0 := by kernel_rfl
theorem Flow.fo_368_1 : fieldOff Tryz.prog 368 1 = some 1 := by kernel_rfl
theorem Flow.fo_368_2 : fieldOff Tryz.prog 368 2 = some 2 := by kernel_rfl
theorem Flow.fo_370_0 : fieldOff Tryz.prog 370 0 = some 0 := by kernel_rfl
theorem Flow.fo_370_1 : fieldOff Tryz.prog 370 1 = some 1 := by kernel_rfl
theorem Flow.fo_370_2 : fieldOff Tryz.prog 370 2 = some 2 := by kernel_rfl
theorem Flow.pl_368 : placesK Tryz.prog 368 = some [(0, 1), (1, 1), (2, 1)] := by kernel_rfl
theorem Flow.pl_370 : placesK Tryz.prog 370 = some [(0, 1), (1, 1), (2, 3)] := by kernel_rfl
theorem Flow.sc_3 : scalarT Tryz.prog 3 = true := by kernel_rfl
theorem Flow.sc_4 : scalarT Tryz.prog 4 = true := by kernel_rfl
theorem Flow.sc_42 : scalarT Tryz.prog 42 = true := by kernel_rfl
theorem Flow.sc_366 : scalarT Tryz.prog 366 = true := by kernel_rfl
theorem Flow.sl_366 : sliceK Tryz.prog 366 = some (370, 5, 32) := by kernel_rfl
theorem Flow.sz_3 : sizeK Tryz.prog 3 = some 1 := by kernel_rfl
theorem Flow.sz_305 : sizeK Tryz.prog 305 = some 3 := by kernel_rfl
theorem Flow.sz_370 : sizeK Tryz.prog 370 = some 5 := by kernel_rfl
theorem Flow.un_3 : Tryz.prog.underlying 3 = some (.int .i64) := by kernel_rfl
theorem Flow.un_42 : Tryz.prog.underlying 42 = some (.int .u32) := by kernel_rfl
theorem Flow.un_299 : Tryz.prog.underlying 299 = some (.pointer 368) := by kernel_rfl
theorem Flow.un_366 : Tryz.prog.underlying 366 = some (.slice 370) := by kernel_rfl
theorem Flow.ze_305 : zeroC Tryz.prog 305 = some [.int .i64 0, .int .u64 0, .int .u64 0] := by kernel_rfl
theorem Flow.ze_368 : zeroC Tryz.prog 368 = some [.slice none 0 0, .int .i64 0, .int .i64 0] := by kernel_rfl
theorem Flow.ze_370 : zeroC Tryz.prog 370 = some [.int .u32 0, .bool false, .int .i64 0, .int .u64 0, .int .u64 0] := by kernel_rfl
set_option maxRecDepth 100000
set_option maxHeartbeats 400000
structure Own where
 packets : Nat
 bytes : Nat
 most : Nat
 deriving DecidableEq, Inhabited
structure Slot where
 id : Nat
 used : Bool
 x : Own
 deriving DecidableEq, Inhabited
abbrev Own.cs (o : Own) : List Value := [.int .i64 o.packets, .int .u64 o.bytes, .int .u64 o.most]
abbrev Slot.cs (s : Slot) : List Value := [.int .u32 s.id, .bool s.used, .int .i64 s.x.packets, .int .u64 s.x.bytes, .int .u64 s.x.most]
theorem Slot.cs5 (s : Slot) : (Slot.cs s).length = 5 := rfl
/-- A table of 8 places at block p, its places in block b. -/
abbrev tabL (p b n room : Nat) (s : List Slot) : List As := [pt p 368 [.slice (some ⟨b, 0, none⟩) 8 8, .int .i64 n, .int .i64 room], pt b 370 (flat Slot.cs s ++ [])]
def homeN (id : Nat) : Nat := (id * 2654435769 % 4294967296 / 128) % 8
theorem and7 {a : Nat} (ha : a < 9223372036854775808) : IntKind.i64.wrap ((BitVec.ofInt IntKind.i64.bits (a : Int) &&& BitVec.ofInt IntKind.i64.bits (((8 : Nat) : Int) - 1)).toNat : Int) = ((a % 8 : Nat) : Int) := by
 have e : (((8 : Nat) : Int) - 1) = ((7 : Nat) : Int) := rfl
 rw [e, BitVec.toNat_and, bvN (by show a < 18446744073709551616; omega), bvN (by decide), show (7 : Nat) = 2 ^ 3 - 1 from rfl, Nat.and_two_pow_sub_one_eq_mod, IntKind.wrap_i64]
 omega
theorem homeN_lt (id : Nat) : homeN id < 8 := Nat.mod_lt _ (by decide)
section
variable {α : Type} {enc : α → List Value} {sz : Nat} (hsz : ∀ e, (enc e).length = sz)
include hsz in
/-- Some cells of one element are others. -/
theorem flat_spliceO {es : List α} {i o : Nat} {e e' : α} {vs : List Value} (r : List Value) (h : es[i]? = some e) (ho : o + vs.length ≤ sz) (he : splice (enc e) o vs = enc e') : splice (flat enc es ++ r) (i * sz + o) vs = flat enc (es.set i e') ++ r := by
 have hi : i < es.length := (List.getElem?_eq_some_iff.1 h).1
 have he0 : es = es.take i ++ e :: es.drop (i + 1) := by
  have := (List.getElem?_eq_some_iff.1 h).2
  rw [← this]; simp
 have hl : (flat enc (es.take i)).length = i * sz := by
  rw [flat_length hsz, List.length_take]; congr 1; omega
 have hs : es.set i e' = es.take i ++ e' :: es.drop (i + 1) := by rw [List.set_eq_take_append_cons_drop, if_pos hi]
 have hX : (enc e).length = sz := hsz e
 rw [hs]
 conv => lhs; rw [he0]
 simp only [flat_append, flat_cons, List.append_assoc]
 rw [← he]
 generalize flat enc (es.take i) = A at *
 generalize flat enc (es.drop (i + 1)) ++ r = B at *
 generalize enc e = X at *
 unfold splice
 rw [← hl, List.take_length_add_append, Nat.add_assoc, List.drop_length_add_append, List.take_append_of_le_length (by omega), List.drop_append_of_le_length (by omega)]
 simp
end
theorem tHome_ct (c : Cx) (p b n room id : Nat) (s : List Slot) (hid : id < 4294967296) : Ct Tryz.prog 221 #[.pointer (some ⟨p, 0, none⟩), .int .u32 id] c (tabL p b n room s) fun v L => v = .int .i64 (homeN id : Nat) ∧ L = tabL p b n room s := by
 refine ct_fn (args := [.pointer (some ⟨p, 0, none⟩), .int .u32 id]) [(0, .pointer (some ⟨p, 0, none⟩)), (1, .int .u32 id)] Tryz.func221 rfl Tryz.ntmps221 rfl ⟨rfl, rfl, trivial⟩ ?_
 refine cd_seq ?_
 refine cd_region [0] ?_
 refine op_y (y_assign rfl) rfl ?_
 refine op_nil ?_
 refine ent_then ?_
 refine cd_seq ?_
 refine cd_region [0, 0, 0, 0, 0, 0, 0, 1, 0, 0, 0, 0] ?_
 refine op_y (y_move rfl) rfl ?_
 refine op_y (y_mul (r := ((id * 2654435769 % 4294967296 : Nat) : Int)) rfl rfl (by simp only [IntKind.wrap, IntKind.signed, IntKind.bits]; simp)) rfl ?_
 refine op_y (y_shr (r := ((id * 2654435769 % 4294967296 / 128 : Nat) : Int)) rfl rfl (by decide) ((shrN_eq (k := .u32) (b := 7) (by decide)).trans (by rw [Nat.shiftRight_eq_div_pow]))) rfl ?_
 first | refine op_y (y_conv Flow.un_42 Flow.un_3 rfl (wi64 (by omega) (by omega))) rfl ?_ | refine op_y (y_conv Flow.un_42 Flow.un_3 rfl rfl) rfl ?_
 refine op_y (y_move rfl) rfl ?_
 first | refine op_y (y_nil rfl) rfl ?_ | refine op_y (y_nili rfl) rfl ?_ | refine op_y (y_nilf rfl) rfl ?_
 first | refine op_y (y_fld0 Flow.fo_368_0 rfl) rfl ?_ | refine op_y (y_flda Flow.fo_368_0 rfl) rfl ?_
 apply op_ld Flow.sc_366 rfl rfl
 ·exact rm
 ·rfl
 refine op_y (y_len Flow.un_366 rfl) rfl ?_
 first | refine op_y (y_sub rfl rfl (wi64 (by omega) (by omega))) rfl ?_ | refine op_y (y_sub rfl rfl rfl) rfl ?_
 refine op_y (y_and (r := ((homeN id : Nat) : Int)) rfl rfl (and7 (by omega))) rfl ?_
 refine op_y (y_assign rfl) rfl ?_
 refine op_nil ?_
 refine ent_then ?_
 refine cd_ret ?_
 refine ent_ret1 rfl rfl ⟨_, ⟨rfl, rfl⟩, fun w h => h⟩
theorem tMade_ct (c : Cx) (p b n room : Nat) (s : List Slot) : Ct Tryz.prog 193 #[.pointer (some ⟨p, 0, none⟩)] c (tabL p b n room s) fun v L => v = .bool true ∧ L = tabL p b n room s := by
 refine ct_fn (args := [.pointer (some ⟨p, 0, none⟩)]) [(0, .pointer (some ⟨p, 0, none⟩))] Tryz.func193 rfl Tryz.ntmps193 rfl ⟨rfl, trivial⟩ ?_
 refine cd_seq ?_
 refine cd_region [0] ?_
 refine op_y (y_assign rfl) rfl ?_
 refine op_nil ?_
 refine ent_then ?_
 refine cd_seq ?_
 refine cd_region [0, 0, 0, 0, 0, 0, 1, 0, 0, 0, 0] ?_
 refine op_y (y_move rfl) rfl ?_
 first | refine op_y (y_pne (r := false) Flow.un_299 rfl rfl) rfl ?_ | refine op_y (y_pne (r := true) Flow.un_299 rfl rfl) rfl ?_ | refine op_y (y_pne Flow.un_299 rfl rfl) rfl ?_
 refine op_y (y_move rfl) rfl ?_
 first
  | refine op_s1 rfl rfl ⟨rfl, rfl⟩ ?_
  | refine op_s2 rfl rfl ⟨rfl, rfl⟩ ?_
  | (refine op_g rfl rfl ?_
     refine op_y (y_move rfl) rfl ?_)
 first
  | refine op_s1 rfl rfl ⟨rfl, rfl⟩ ?_
  | refine op_s2 rfl rfl ⟨rfl, rfl⟩ ?_
  | (refine op_g rfl rfl ?_
     first | refine op_y (y_nil rfl) rfl ?_ | refine op_y (y_nili rfl) rfl ?_ | refine op_y (y_nilf rfl) rfl ?_)
 first
  | refine op_s1 rfl rfl ⟨rfl, rfl⟩ ?_
  | refine op_s2 rfl rfl ⟨rfl, rfl⟩ ?_
  | (refine op_g rfl rfl ?_
     first | refine op_y (y_fld0 Flow.fo_368_0 rfl) rfl ?_ | refine op_y (y_flda Flow.fo_368_0 rfl) rfl ?_)
 first
  | refine op_s1 rfl rfl ⟨rfl, rfl⟩ ?_
  | refine op_s2 rfl rfl ⟨rfl, rfl⟩ ?_
  | (refine op_g rfl rfl ?_
     apply op_ld Flow.sc_366 rfl rfl
     ·exact rm
     ·rfl)
 first
  | refine op_s1 rfl rfl ⟨rfl, rfl⟩ ?_
  | refine op_s2 rfl rfl ⟨rfl, rfl⟩ ?_
  | (refine op_g rfl rfl ?_
     refine op_y (y_len Flow.un_366 rfl) rfl ?_)
 first
  | refine op_s1 rfl rfl ⟨rfl, rfl⟩ ?_
  | refine op_s2 rfl rfl ⟨rfl, rfl⟩ ?_
  | (refine op_g rfl rfl ?_
     first | refine op_y (y_gt rfl rfl (decide_eq_true (by omega))) rfl ?_ | refine op_y (y_gt rfl rfl (decide_eq_false (by omega))) rfl ?_ | refine op_y (y_gt rfl rfl rfl) rfl ?_)
 first | refine op_y (y_pickt rfl rfl) rfl ?_ | refine op_y (y_pickf rfl rfl) rfl ?_ | refine op_y (y_pick rfl rfl rfl) rfl ?_
 refine op_y (y_assign rfl) rfl ?_
 refine op_nil ?_
 refine ent_then ?_
 refine cd_ret ?_
 refine ent_ret1 rfl rfl ⟨_, ⟨rfl, rfl⟩, fun w h => h⟩
theorem tFind_ct (c : Cx) (p b n room id : Nat) (s : List Slot) (x : Slot) (hid : id < 4294967296) (hs : s.length = 8) (h : Nat) (hh : homeN id = h) (hx : s[h]? = some x) (hu : x.used = false ∨ x.id = id) :
 Ct Tryz.prog 194 #[.pointer (some ⟨p, 0, none⟩), .int .u32 id] c (tabL p b n room s) fun v L => v = .int .i64 (h : Nat) ∧ L = tabL p b n room s := by
 refine ct_fn (args := [.pointer (some ⟨p, 0, none⟩), .int .u32 id]) [(0, .pointer (some ⟨p, 0, none⟩)), (1, .int .u32 id)] Tryz.func194 rfl Tryz.ntmps194 rfl ⟨rfl, rfl, trivial⟩ ?_
 have hlt : h < 8 := hh ▸ homeN_lt id
 refine cd_seq ?_
 refine cd_region [0] ?_
 refine op_y (y_assign rfl) rfl ?_
 refine op_nil ?_
 refine ent_then ?_
 refine cd_seq ?_
 refine cd_region [0, 0, 2, 0] ?_
 refine op_y (y_move rfl) rfl ?_
 refine op_y (y_move rfl) rfl ?_
 apply op_c Flow.ca_221 rfl rfl (fun e he_ => tHome_ct e p b n room id s hid)
 ·exact sx
 rintro _ _ ⟨rfl, rfl⟩ G_ hG_
 simp only [zn] at hG_; subst hG_
 rw [hh]
 obtain ⟨xi, xu, xx⟩ := x
 cases xu with
 | false =>
  skip
  refine op_y (y_assign rfl) rfl ?_
  refine op_nil ?_
  refine ent_then ?_
  refine cd_seq ?_
  refine cd_block ?_
  refine cd_rounds 0 ?_
  refine cd_seq ?_
  refine cd_seq ?_
  refine cd_region [0, 0, 0, 1, 0, 0, 0, 1, 0, 0, 0, 0, 1, 0, 0, 0, 1, 0, 0, 0] ?_
  refine op_y (y_move rfl) rfl ?_
  first | refine op_y (y_nil rfl) rfl ?_ | refine op_y (y_nili rfl) rfl ?_ | refine op_y (y_nilf rfl) rfl ?_
  first | refine op_y (y_fld0 Flow.fo_368_0 rfl) rfl ?_ | refine op_y (y_flda Flow.fo_368_0 rfl) rfl ?_
  apply op_ld Flow.sc_366 rfl rfl
  ·exact rm
  ·rfl
  refine op_y (y_move rfl) rfl ?_
  first | refine op_y (y_ix0 (j := h) Flow.sl_366 rfl rfl (by omega) (by omega)) rfl ?_ | refine op_y (y_ix (j := h) Flow.sl_366 rfl rfl (by omega) (by omega)) rfl ?_ | refine op_y (y_ixa (j := h) Flow.sl_366 rfl rfl (by omega) (by omega)) rfl ?_
  first | refine op_y (y_fld Flow.fo_370_1 rfl) rfl ?_ | refine op_y (y_flda Flow.fo_370_1 rfl) rfl ?_
  apply op_ld Flow.sc_4 rfl rfl
  ·exact rm
  ·exact flat_get Slot.cs5 (j := 1) [] hx (by decide) rfl
  refine op_y (y_move rfl) rfl ?_
  first
   | refine op_s1 rfl rfl ⟨rfl, rfl⟩ ?_
   | refine op_s2 rfl rfl ⟨rfl, rfl⟩ ?_
   | (refine op_g rfl rfl ?_
      refine op_y (y_move rfl) rfl ?_)
  first
   | refine op_s1 rfl rfl ⟨rfl, rfl⟩ ?_
   | refine op_s2 rfl rfl ⟨rfl, rfl⟩ ?_
   | (refine op_g rfl rfl ?_
      first | refine op_y (y_nil rfl) rfl ?_ | refine op_y (y_nili rfl) rfl ?_ | refine op_y (y_nilf rfl) rfl ?_)
  first
   | refine op_s1 rfl rfl ⟨rfl, rfl⟩ ?_
   | refine op_s2 rfl rfl ⟨rfl, rfl⟩ ?_
   | (refine op_g rfl rfl ?_
      first | refine op_y (y_fld0 Flow.fo_368_0 rfl) rfl ?_ | refine op_y (y_flda Flow.fo_368_0 rfl) rfl ?_)
  first
   | refine op_s1 rfl rfl ⟨rfl, rfl⟩ ?_
   | refine op_s2 rfl rfl ⟨rfl, rfl⟩ ?_
   | (refine op_g rfl rfl ?_
      apply op_ld Flow.sc_366 rfl rfl
      ·exact rm
      ·rfl)
  first
   | refine op_s1 rfl rfl ⟨rfl, rfl⟩ ?_
   | refine op_s2 rfl rfl ⟨rfl, rfl⟩ ?_
   | (refine op_g rfl rfl ?_
      refine op_y (y_move rfl) rfl ?_)
  first
   | refine op_s1 rfl rfl ⟨rfl, rfl⟩ ?_
   | refine op_s2 rfl rfl ⟨rfl, rfl⟩ ?_
   | (refine op_g rfl rfl ?_
      first | refine op_y (y_ix0 Flow.sl_366 rfl rfl rfl (by omega)) rfl ?_ | refine op_y (y_ix0 Flow.sl_366 rfl rfl (Int.toNat_of_nonneg (by omega)).symm (by omega)) rfl ?_ | refine op_y (y_ix Flow.sl_366 rfl rfl rfl (by omega)) rfl ?_ | refine op_y (y_ix Flow.sl_366 rfl rfl (Int.toNat_of_nonneg (by omega)).symm (by omega)) rfl ?_ | refine op_y (y_ixa Flow.sl_366 rfl rfl rfl (by omega)) rfl ?_ | refine op_y (y_ixa Flow.sl_366 rfl rfl (Int.toNat_of_nonneg (by omega)).symm (by omega)) rfl ?_)
  first
   | refine op_s1 rfl rfl ⟨rfl, rfl⟩ ?_
   | refine op_s2 rfl rfl ⟨rfl, rfl⟩ ?_
   | (refine op_g rfl rfl ?_
      first | refine op_y (y_fld0 Flow.fo_370_0 rfl) rfl ?_ | refine op_y (y_flda Flow.fo_370_0 rfl) rfl ?_)
  first
   | refine op_s1 rfl rfl ⟨rfl, rfl⟩ ?_
   | refine op_s2 rfl rfl ⟨rfl, rfl⟩ ?_
   | (refine op_g rfl rfl ?_
      apply op_ld Flow.sc_42 rfl rfl
      ·exact rm
      ·rfl)
  first
   | refine op_s1 rfl rfl ⟨rfl, rfl⟩ ?_
   | refine op_s2 rfl rfl ⟨rfl, rfl⟩ ?_
   | (refine op_g rfl rfl ?_
      refine op_y (y_move rfl) rfl ?_)
  first
   | refine op_s1 rfl rfl ⟨rfl, rfl⟩ ?_
   | refine op_s2 rfl rfl ⟨rfl, rfl⟩ ?_
   | (refine op_g rfl rfl ?_
      first | refine op_y (y_ne rfl rfl (neT (by omega))) rfl ?_ | refine op_y (y_ne rfl rfl (neF (by omega))) rfl ?_ | refine op_y (y_ne rfl rfl rfl) rfl ?_)
  first | refine op_y (y_pickt rfl rfl) rfl ?_ | refine op_y (y_pickf rfl rfl) rfl ?_ | refine op_y (y_pick rfl rfl rfl) rfl ?_
  refine op_nil ?_
  refine ent_then ?_
  refine cd_iff rfl ?_
  refine cd_exit ?_
  refine ent_thn_exit ?_
  refine ent_then_exit ?_
  refine ent_block_exit ?_
  refine ent_then ?_
  refine cd_seq ?_
  refine cd_region [0, 0] ?_
  refine op_y (y_move rfl) rfl ?_
  refine op_y (y_assign rfl) rfl ?_
  refine op_nil ?_
  refine ent_then ?_
  refine cd_ret ?_
  refine ent_ret1 rfl rfl ⟨_, ⟨rfl, rfl⟩, fun w h => h⟩
 | true =>
  skip
  have hi : xi = id := by simpa using hu
  subst hi
  have hii : (⟨xi, true, xx⟩ : Slot).id = xi := rfl
  refine op_y (y_assign rfl) rfl ?_
  refine op_nil ?_
  refine ent_then ?_
  refine cd_seq ?_
  refine cd_block ?_
  refine cd_rounds 0 ?_
  refine cd_seq ?_
  refine cd_seq ?_
  refine cd_region [0, 0, 0, 1, 0, 0, 0, 1, 0, 0, 0, 0, 1, 0, 0, 0, 1, 0, 0, 0] ?_
  refine op_y (y_move rfl) rfl ?_
  first | refine op_y (y_nil rfl) rfl ?_ | refine op_y (y_nili rfl) rfl ?_ | refine op_y (y_nilf rfl) rfl ?_
  first | refine op_y (y_fld0 Flow.fo_368_0 rfl) rfl ?_ | refine op_y (y_flda Flow.fo_368_0 rfl) rfl ?_
  apply op_ld Flow.sc_366 rfl rfl
  ·exact rm
  ·rfl
  refine op_y (y_move rfl) rfl ?_
  first | refine op_y (y_ix0 (j := h) Flow.sl_366 rfl rfl (by omega) (by omega)) rfl ?_ | refine op_y (y_ix (j := h) Flow.sl_366 rfl rfl (by omega) (by omega)) rfl ?_ | refine op_y (y_ixa (j := h) Flow.sl_366 rfl rfl (by omega) (by omega)) rfl ?_
  first | refine op_y (y_fld Flow.fo_370_1 rfl) rfl ?_ | refine op_y (y_flda Flow.fo_370_1 rfl) rfl ?_
  apply op_ld Flow.sc_4 rfl rfl
  ·exact rm
  ·exact flat_get Slot.cs5 (j := 1) [] hx (by decide) rfl
  refine op_y (y_move rfl) rfl ?_
  first
   | refine op_s1 rfl rfl ⟨rfl, rfl⟩ ?_
   | refine op_s2 rfl rfl ⟨rfl, rfl⟩ ?_
   | (refine op_g rfl rfl ?_
      refine op_y (y_move rfl) rfl ?_)
  first
   | refine op_s1 rfl rfl ⟨rfl, rfl⟩ ?_
   | refine op_s2 rfl rfl ⟨rfl, rfl⟩ ?_
   | (refine op_g rfl rfl ?_
      first | refine op_y (y_nil rfl) rfl ?_ | refine op_y (y_nili rfl) rfl ?_ | refine op_y (y_nilf rfl) rfl ?_)
  first
   | refine op_s1 rfl rfl ⟨rfl, rfl⟩ ?_
   | refine op_s2 rfl rfl ⟨rfl, rfl⟩ ?_
   | (refine op_g rfl rfl ?_
      first | refine op_y (y_fld0 Flow.fo_368_0 rfl) rfl ?_ | refine op_y (y_flda Flow.fo_368_0 rfl) rfl ?_)
  first
   | refine op_s1 rfl rfl ⟨rfl, rfl⟩ ?_
   | refine op_s2 rfl rfl ⟨rfl, rfl⟩ ?_
   | (refine op_g rfl rfl ?_
      apply op_ld Flow.sc_366 rfl rfl
      ·exact rm
      ·rfl)
  first
   | refine op_s1 rfl rfl ⟨rfl, rfl⟩ ?_
   | refine op_s2 rfl rfl ⟨rfl, rfl⟩ ?_
   | (refine op_g rfl rfl ?_
      refine op_y (y_move rfl) rfl ?_)
  refine op_g rfl rfl ?_
  first | refine op_y (y_ix0 (j := h) Flow.sl_366 rfl rfl (by omega) (by omega)) rfl ?_ | refine op_y (y_ix (j := h) Flow.sl_366 rfl rfl (by omega) (by omega)) rfl ?_ | refine op_y (y_ixa (j := h) Flow.sl_366 rfl rfl (by omega) (by omega)) rfl ?_
  first
   | refine op_s1 rfl rfl ⟨rfl, rfl⟩ ?_
   | refine op_s2 rfl rfl ⟨rfl, rfl⟩ ?_
   | (refine op_g rfl rfl ?_
      first | refine op_y (y_fld0 Flow.fo_370_0 rfl) rfl ?_ | refine op_y (y_flda Flow.fo_370_0 rfl) rfl ?_)
  refine op_g rfl rfl ?_
  apply op_ld Flow.sc_42 rfl rfl
  ·exact rm
  ·exact flat_get Slot.cs5 (j := 0) [] hx (by decide) rfl
  first
   | refine op_s1 rfl rfl ⟨rfl, rfl⟩ ?_
   | refine op_s2 rfl rfl ⟨rfl, rfl⟩ ?_
   | (refine op_g rfl rfl ?_
      refine op_y (y_move rfl) rfl ?_)
  first
   | refine op_s1 rfl rfl ⟨rfl, rfl⟩ ?_
   | refine op_s2 rfl rfl ⟨rfl, rfl⟩ ?_
   | (refine op_g rfl rfl ?_
      first | refine op_y (y_ne rfl rfl (neT (by omega))) rfl ?_ | refine op_y (y_ne rfl rfl (neF (by omega))) rfl ?_ | refine op_y (y_ne rfl rfl rfl) rfl ?_)
  first | refine op_y (y_pickt rfl rfl) rfl ?_ | refine op_y (y_pickf rfl rfl) rfl ?_ | refine op_y (y_pick rfl rfl rfl) rfl ?_
  refine op_nil ?_
  refine ent_then ?_
  refine cd_iff rfl ?_
  refine cd_exit ?_
  refine ent_thn_exit ?_
  refine ent_then_exit ?_
  refine ent_block_exit ?_
  refine ent_then ?_
  refine cd_seq ?_
  refine cd_region [0, 0] ?_
  refine op_y (y_move rfl) rfl ?_
  refine op_y (y_assign rfl) rfl ?_
  refine op_nil ?_
  refine ent_then ?_
  refine cd_ret ?_
  refine ent_ret1 rfl rfl ⟨_, ⟨rfl, rfl⟩, fun w h => h⟩
theorem tGet_ct (c : Cx) (p b n room id : Nat) (s : List Slot) (x : Slot) (hid : id < 4294967296) (hs : s.length = 8) (h : Nat) (hh : homeN id = h) (hx : s[h]? = some x) (hu : x.used = true) (hi : x.id = id) :
 Ct Tryz.prog 209 #[.pointer (some ⟨p, 0, none⟩), .int .u32 id] c (tabL p b n room s) fun v L => v = .tuple #[.agg (Own.cs x.x).toArray, .bool true] ∧ L = tabL p b n room s := by
 refine ct_fn (args := [.pointer (some ⟨p, 0, none⟩), .int .u32 id]) [(0, .pointer (some ⟨p, 0, none⟩)), (1, .int .u32 id)] Tryz.func209 rfl Tryz.ntmps209 rfl ⟨rfl, rfl, trivial⟩ ?_
 have hlt : h < 8 := hh ▸ homeN_lt id
 obtain ⟨xi, xu, xx⟩ := x
 simp only at hu hi
 subst hu hi
 refine cd_seq ?_
 refine cd_region [2, 0] ?_
 refine op_alloc Flow.ze_305 rfl fun b4 => ?_
 refine op_y (y_assign rfl) rfl ?_
 refine op_nil ?_
 refine ent_then ?_
 refine cd_seq ?_
 refine cd_region [2] ?_
 refine op_alloc Flow.ze_305 rfl fun b6 => ?_
 refine op_nil ?_
 refine ent_then ?_
 refine cd_seq ?_
 refine cd_seq ?_
 refine cd_drawL [0, 1, 2, 3, 4, 5, 6, 7, 8, 9, 10, 11, 12, 13, 14, 15] [0, 2, 0, 0, 0, 0, 0, 3, 0, 0, 4, 0, 0, 1, 0, 0] mixed_ (by kernel_rfl) ?_
 refine op_y (y_move rfl) rfl ?_
 apply op_c Flow.ca_193 rfl rfl (fun e he_ => tMade_ct e p b n room s)
 ·exact sx
 rintro _ _ ⟨rfl, rfl⟩ G_ hG_
 simp only [zn] at hG_; subst hG_
 first | refine op_y (y_not (b := true) (r := false) rfl rfl) rfl ?_ | refine op_y (y_not (b := false) (r := true) rfl rfl) rfl ?_ | refine op_y (y_not rfl rfl) rfl ?_
 refine op_y (y_move rfl) rfl ?_
 first
  | refine op_s1 rfl rfl ⟨rfl, rfl⟩ ?_
  | refine op_s2 rfl rfl ⟨rfl, rfl⟩ ?_
  | (refine op_g rfl rfl ?_
     refine op_y (y_move rfl) rfl ?_)
 first
  | refine op_s1 rfl rfl ⟨rfl, rfl⟩ ?_
  | refine op_s2 rfl rfl ⟨rfl, rfl⟩ ?_
  | (refine op_g rfl rfl ?_
     first | refine op_y (y_nil rfl) rfl ?_ | refine op_y (y_nili rfl) rfl ?_ | refine op_y (y_nilf rfl) rfl ?_)
 first
  | refine op_s1 rfl rfl ⟨rfl, rfl⟩ ?_
  | refine op_s2 rfl rfl ⟨rfl, rfl⟩ ?_
  | (refine op_g rfl rfl ?_
     first | refine op_y (y_fld0 Flow.fo_368_0 rfl) rfl ?_ | refine op_y (y_flda Flow.fo_368_0 rfl) rfl ?_)
 first
  | refine op_s rfl rfl (.inl rfl) rfl (.inr (by (first | exact fun w h => h | exact fun w h => h.drop | (intro w h; apply Sat.only (h := h); exact sx)))) ?_
  | refine op_s rfl rfl (.inr rfl) rfl (.inr (by (first | exact fun w h => h | exact fun w h => h.drop | (intro w h; apply Sat.only (h := h); exact sx)))) ?_
  | (refine op_g rfl rfl ?_
     apply op_lds Flow.sc_366 rfl rfl
     ·exact rm
     ·rfl
     ·(first | exact fun w h => h | exact fun w h => h.drop | (intro w h; apply Sat.only (h := h); exact sx)))
 first
  | refine op_s1 rfl rfl ⟨rfl, rfl⟩ ?_
  | refine op_s2 rfl rfl ⟨rfl, rfl⟩ ?_
  | (refine op_g rfl rfl ?_
     refine op_y (y_move rfl) rfl ?_)
 first
  | refine op_s1 rfl rfl ⟨rfl, rfl⟩ ?_
  | refine op_s2 rfl rfl ⟨rfl, rfl⟩ ?_
  | (refine op_g rfl rfl ?_
     refine op_y (y_move rfl) rfl ?_)
 refine op_g rfl rfl ?_
 apply op_c4 Flow.ca_194 rfl rfl (fun e he_ => tFind_ct e p b n room xi s _ hid hs h hh hx (.inr rfl))
 ·exact sx
 rintro _ _ ⟨rfl, rfl⟩ G_ hG_
 simp only [zn] at hG_; subst hG_
 refine ⟨by (first | exact fun w h => h | exact fun w h => h.drop | (intro w h; apply Sat.only (h := h); exact sx)), ?_⟩
 refine op_g rfl rfl ?_
 first | refine op_y (y_ix0 (j := h) Flow.sl_366 rfl rfl (by omega) (by omega)) rfl ?_ | refine op_y (y_ix (j := h) Flow.sl_366 rfl rfl (by omega) (by omega)) rfl ?_ | refine op_y (y_ixa (j := h) Flow.sl_366 rfl rfl (by omega) (by omega)) rfl ?_
 first
  | refine op_s1 rfl rfl ⟨rfl, rfl⟩ ?_
  | refine op_s2 rfl rfl ⟨rfl, rfl⟩ ?_
  | (refine op_g rfl rfl ?_
     first | refine op_y (y_fld Flow.fo_370_1 rfl) rfl ?_ | refine op_y (y_flda Flow.fo_370_1 rfl) rfl ?_)
 refine op_g rfl rfl ?_
 apply op_ld Flow.sc_4 rfl rfl
 ·exact rm
 ·exact flat_get Slot.cs5 (j := 1) [] hx (by decide) rfl
 first
  | refine op_s1 rfl rfl ⟨rfl, rfl⟩ ?_
  | refine op_s2 rfl rfl ⟨rfl, rfl⟩ ?_
  | (refine op_g rfl rfl ?_
     first | refine op_y (y_not (b := true) (r := false) rfl rfl) rfl ?_ | refine op_y (y_not (b := false) (r := true) rfl rfl) rfl ?_ | refine op_y (y_not rfl rfl) rfl ?_)
 first | refine op_y (y_pickt rfl rfl) rfl ?_ | refine op_y (y_pickf rfl rfl) rfl ?_ | refine op_y (y_pick rfl rfl rfl) rfl ?_
 refine op_nil ?_
 refine ent_then ?_
 refine cd_iff rfl ?_
 refine cd_skip ?_
 refine ent_then ?_
 refine cd_seq ?_
 refine cd_drawL [0, 1, 2, 3, 4, 5, 6, 7, 8, 9, 10, 11] [0, 0, 0, 3, 0, 0, 4, 0, 0, 1, 2, 0] mixed_ (by kernel_rfl) ?_
 refine op_y (y_move rfl) rfl ?_
 first | refine op_y (y_nil rfl) rfl ?_ | refine op_y (y_nili rfl) rfl ?_ | refine op_y (y_nilf rfl) rfl ?_
 first | refine op_y (y_fld0 Flow.fo_368_0 rfl) rfl ?_ | refine op_y (y_flda Flow.fo_368_0 rfl) rfl ?_
 apply op_lds Flow.sc_366 rfl rfl
 ·exact rm
 ·rfl
 ·(first | exact fun w h => h | exact fun w h => h.drop | (intro w h; apply Sat.only (h := h); exact sx))
 refine op_y (y_move rfl) rfl ?_
 refine op_y (y_move rfl) rfl ?_
 apply op_c4 Flow.ca_194 rfl rfl (fun e he_ => tFind_ct e p b n room xi s _ hid hs h hh hx (.inr rfl))
 ·exact sx
 rintro _ _ ⟨rfl, rfl⟩ G_ hG_
 simp only [zn] at hG_; subst hG_
 refine ⟨by (first | exact fun w h => h | exact fun w h => h.drop | (intro w h; apply Sat.only (h := h); exact sx)), ?_⟩
 first | refine op_y (y_ix0 (j := h) Flow.sl_366 rfl rfl (by omega) (by omega)) rfl ?_ | refine op_y (y_ix (j := h) Flow.sl_366 rfl rfl (by omega) (by omega)) rfl ?_ | refine op_y (y_ixa (j := h) Flow.sl_366 rfl rfl (by omega) (by omega)) rfl ?_
 first | refine op_y (y_fld Flow.fo_370_2 rfl) rfl ?_ | refine op_y (y_flda Flow.fo_370_2 rfl) rfl ?_
 apply op_lda Flow.ag_305 rfl rfl
 ·exact rm
 ·exact (show _ = Own.cs xx from flat_take' Slot.cs5 (o := 2) (k := 3) [] hx (by decide))
 ·first | rfl | simp [*]
 apply op_sta Flow.sz_305 rfl rfl rfl rfl
 ·exact rm
 ·simp
 ·(first | ((try simp only [zz, splice, Nat.reduceAdd, Nat.zero_mul, Own.cs, Slot.cs]) <;> rfl) | rfl)
 refine op_y (y_assign rfl) rfl ?_
 refine op_nil ?_
 refine ent_then ?_
 refine cd_ret ?_
 refine ent_rets (rs := [_, _]) (vs := [.agg (Own.cs xx).toArray, .bool true]) (.inl rfl) rfl ⟨⟨_, rfl, .inr ⟨_, 3, rfl, rfl, rds_all (by exact rm), rfl⟩⟩, rfl, trivial⟩ ⟨_, ⟨rfl, rfl⟩, fun w h => ?_⟩
 apply Sat.only (h := h)
 exact sx
theorem tSet_ct (c : Cx) (p b n room id : Nat) (s : List Slot) (x : Slot) (o : Own) (hid : id < 4294967296) (hs : s.length = 8) (h : Nat) (hh : homeN id = h) (hx : s[h]? = some x) (hu : x.used = true) (hi : x.id = id) :
 Ct Tryz.prog 211 #[.pointer (some ⟨p, 0, none⟩), .int .u32 id, .agg (Own.cs o).toArray] c (tabL p b n room s) fun v L => v = .bool true ∧ L = tabL p b n room (s.set h { x with x := o }) := by
 refine ct_fn (args := [.pointer (some ⟨p, 0, none⟩), .int .u32 id, .agg (Own.cs o).toArray]) [(0, .pointer (some ⟨p, 0, none⟩)), (1, .int .u32 id), (2, .agg (Own.cs o).toArray)] Tryz.func211 rfl Tryz.ntmps211 rfl ⟨rfl, rfl, rfl, trivial⟩ ?_
 have hlt : h < 8 := hh ▸ homeN_lt id
 obtain ⟨xi, xu, xx⟩ := x
 simp only at hu hi
 subst hu hi
 refine cd_seq ?_
 refine cd_region [2, 0] ?_
 refine op_boxa rfl rfl fun b5 => ?_
 refine op_y (y_assign rfl) rfl ?_
 refine op_nil ?_
 refine ent_then ?_
 refine cd_seq ?_
 refine cd_seq ?_
 refine cd_drawL [0, 1, 2, 3, 4, 5, 6, 7, 8, 9, 10, 11, 12, 13, 14, 15] [0, 2, 0, 0, 0, 0, 0, 3, 0, 0, 4, 0, 0, 1, 0, 0] mixed_ (by kernel_rfl) ?_
 refine op_y (y_move rfl) rfl ?_
 apply op_c Flow.ca_193 rfl rfl (fun e he_ => tMade_ct e p b n room s)
 ·exact sx
 rintro _ _ ⟨rfl, rfl⟩ G_ hG_
 simp only [zn] at hG_; subst hG_
 first | refine op_y (y_not (b := true) (r := false) rfl rfl) rfl ?_ | refine op_y (y_not (b := false) (r := true) rfl rfl) rfl ?_ | refine op_y (y_not rfl rfl) rfl ?_
 refine op_y (y_move rfl) rfl ?_
 first
  | refine op_s1 rfl rfl ⟨rfl, rfl⟩ ?_
  | refine op_s2 rfl rfl ⟨rfl, rfl⟩ ?_
  | (refine op_g rfl rfl ?_
     refine op_y (y_move rfl) rfl ?_)
 first
  | refine op_s1 rfl rfl ⟨rfl, rfl⟩ ?_
  | refine op_s2 rfl rfl ⟨rfl, rfl⟩ ?_
  | (refine op_g rfl rfl ?_
     first | refine op_y (y_nil rfl) rfl ?_ | refine op_y (y_nili rfl) rfl ?_ | refine op_y (y_nilf rfl) rfl ?_)
 first
  | refine op_s1 rfl rfl ⟨rfl, rfl⟩ ?_
  | refine op_s2 rfl rfl ⟨rfl, rfl⟩ ?_
  | (refine op_g rfl rfl ?_
     first | refine op_y (y_fld0 Flow.fo_368_0 rfl) rfl ?_ | refine op_y (y_flda Flow.fo_368_0 rfl) rfl ?_)
 first
  | refine op_s rfl rfl (.inl rfl) rfl (.inr (by (first | exact fun w h => h | exact fun w h => h.drop | (intro w h; apply Sat.only (h := h); exact sx)))) ?_
  | refine op_s rfl rfl (.inr rfl) rfl (.inr (by (first | exact fun w h => h | exact fun w h => h.drop | (intro w h; apply Sat.only (h := h); exact sx)))) ?_
  | (refine op_g rfl rfl ?_
     apply op_lds Flow.sc_366 rfl rfl
     ·exact rm
     ·rfl
     ·(first | exact fun w h => h | exact fun w h => h.drop | (intro w h; apply Sat.only (h := h); exact sx)))
 first
  | refine op_s1 rfl rfl ⟨rfl, rfl⟩ ?_
  | refine op_s2 rfl rfl ⟨rfl, rfl⟩ ?_
  | (refine op_g rfl rfl ?_
     refine op_y (y_move rfl) rfl ?_)
 first
  | refine op_s1 rfl rfl ⟨rfl, rfl⟩ ?_
  | refine op_s2 rfl rfl ⟨rfl, rfl⟩ ?_
  | (refine op_g rfl rfl ?_
     refine op_y (y_move rfl) rfl ?_)
 refine op_g rfl rfl ?_
 apply op_c4 Flow.ca_194 rfl rfl (fun e he_ => tFind_ct e p b n room xi s _ hid hs h hh hx (.inr rfl))
 ·exact sx
 rintro _ _ ⟨rfl, rfl⟩ G_ hG_
 simp only [zn] at hG_; subst hG_
 refine ⟨by (first | exact fun w h => h | exact fun w h => h.drop | (intro w h; apply Sat.only (h := h); exact sx)), ?_⟩
 refine op_g rfl rfl ?_
 first | refine op_y (y_ix0 (j := h) Flow.sl_366 rfl rfl (by omega) (by omega)) rfl ?_ | refine op_y (y_ix (j := h) Flow.sl_366 rfl rfl (by omega) (by omega)) rfl ?_ | refine op_y (y_ixa (j := h) Flow.sl_366 rfl rfl (by omega) (by omega)) rfl ?_
 first
  | refine op_s1 rfl rfl ⟨rfl, rfl⟩ ?_
  | refine op_s2 rfl rfl ⟨rfl, rfl⟩ ?_
  | (refine op_g rfl rfl ?_
     first | refine op_y (y_fld Flow.fo_370_1 rfl) rfl ?_ | refine op_y (y_flda Flow.fo_370_1 rfl) rfl ?_)
 refine op_g rfl rfl ?_
 apply op_ld Flow.sc_4 rfl rfl
 ·exact rm
 ·exact flat_get Slot.cs5 (j := 1) [] hx (by decide) rfl
 first
  | refine op_s1 rfl rfl ⟨rfl, rfl⟩ ?_
  | refine op_s2 rfl rfl ⟨rfl, rfl⟩ ?_
  | (refine op_g rfl rfl ?_
     first | refine op_y (y_not (b := true) (r := false) rfl rfl) rfl ?_ | refine op_y (y_not (b := false) (r := true) rfl rfl) rfl ?_ | refine op_y (y_not rfl rfl) rfl ?_)
 first | refine op_y (y_pickt rfl rfl) rfl ?_ | refine op_y (y_pickf rfl rfl) rfl ?_ | refine op_y (y_pick rfl rfl rfl) rfl ?_
 refine op_nil ?_
 refine ent_then ?_
 refine cd_iff rfl ?_
 refine cd_skip ?_
 refine ent_then ?_
 refine cd_seq ?_
 refine cd_drawL [0, 1, 2, 3, 4, 5, 7, 6, 8, 9, 10] [0, 0, 0, 3, 0, 0, 3, 4, 0, 0, 2] mixed_ (by kernel_rfl) ?_
 refine op_y (y_move rfl) rfl ?_
 first | refine op_y (y_nil rfl) rfl ?_ | refine op_y (y_nili rfl) rfl ?_ | refine op_y (y_nilf rfl) rfl ?_
 first | refine op_y (y_fld0 Flow.fo_368_0 rfl) rfl ?_ | refine op_y (y_flda Flow.fo_368_0 rfl) rfl ?_
 apply op_lds Flow.sc_366 rfl rfl
 ·exact rm
 ·rfl
 ·(first | exact fun w h => h | exact fun w h => h.drop | (intro w h; apply Sat.only (h := h); exact sx))
 refine op_y (y_move rfl) rfl ?_
 refine op_y (y_move rfl) rfl ?_
 apply op_ldas Flow.ag_305 rfl rfl
 ·exact rm
 ·(first | ((try simp only [zz, splice, Nat.reduceAdd, Nat.zero_mul, Own.cs, Slot.cs]) <;> rfl) | rfl)
 ·rfl
 ·(first | exact fun w h => h | exact fun w h => h.drop | (intro w h; apply Sat.only (h := h); exact sx))
 apply op_c4 Flow.ca_194 rfl rfl (fun e he_ => tFind_ct e p b n room xi s _ hid hs h hh hx (.inr rfl))
 ·exact sx
 rintro _ _ ⟨rfl, rfl⟩ G_ hG_
 simp only [zn] at hG_; subst hG_
 refine ⟨by (first | exact fun w h => h | exact fun w h => h.drop | (intro w h; apply Sat.only (h := h); exact sx)), ?_⟩
 first | refine op_y (y_ix0 (j := h) Flow.sl_366 rfl rfl (by omega) (by omega)) rfl ?_ | refine op_y (y_ix (j := h) Flow.sl_366 rfl rfl (by omega) (by omega)) rfl ?_ | refine op_y (y_ixa (j := h) Flow.sl_366 rfl rfl (by omega) (by omega)) rfl ?_
 first | refine op_y (y_fld Flow.fo_370_2 rfl) rfl ?_ | refine op_y (y_flda Flow.fo_370_2 rfl) rfl ?_
 apply op_sta Flow.sz_305 rfl rfl rfl rfl
 ·exact rm
 ·(rw [List.length_append, flat_length Slot.cs5, hs]; simp; omega)
 ·exact flat_spliceO Slot.cs5 (o := 2) (e' := ⟨xi, true, o⟩) [] hx (by simp) rfl
 refine op_nil ?_
 refine ent_then ?_
 refine cd_seq ?_
 refine cd_region [0] ?_
 refine op_y (y_assign rfl) rfl ?_
 refine op_nil ?_
 refine ent_then ?_
 refine cd_ret ?_
 refine ent_ret1 rfl rfl ⟨_, ⟨rfl, rfl⟩, fun w h => ?_⟩
 apply Sat.only (h := h)
 exact sx
theorem tPut_ct (c : Cx) (p b n room id : Nat) (s : List Slot) (x : Slot) (o : Own) (hid : id < 4294967296) (hs : s.length = 8) (h : Nat) (hh : homeN id = h) (hx : s[h]? = some x) (hu : x.used = false) (hn : n < room) (hr : room ≤ 4096) (h4 : n < 6) :
 Ct Tryz.prog 151 #[.pointer (some ⟨p, 0, none⟩), .int .u32 id, .agg (Own.cs o).toArray] c (tabL p b n room s) fun v L => v = .int .i64 0 ∧ L = tabL p b (n + 1) room (s.set h ⟨id, true, o⟩) := by
 refine ct_fn (args := [.pointer (some ⟨p, 0, none⟩), .int .u32 id, .agg (Own.cs o).toArray]) [(0, .pointer (some ⟨p, 0, none⟩)), (1, .int .u32 id), (2, .agg (Own.cs o).toArray)] Tryz.func151 rfl Tryz.ntmps151 rfl ⟨rfl, rfl, rfl, trivial⟩ ?_
 have hlt : h < 8 := hh ▸ homeN_lt id
 obtain ⟨xi, xu, xx⟩ := x
 simp only at hu
 subst hu
 refine cd_seq ?_
 refine cd_region [2, 0] ?_
 refine op_boxa rfl rfl fun b5 => ?_
 refine op_y (y_assign rfl) rfl ?_
 refine op_nil ?_
 refine ent_then ?_
 refine cd_seq ?_
 refine cd_block ?_
 refine cd_seq ?_
 refine cd_region [0, 2, 0, 0] ?_
 refine op_y (y_move rfl) rfl ?_
 apply op_c Flow.ca_193 rfl rfl (fun e he_ => tMade_ct e p b n room s)
 ·exact sx
 rintro _ _ ⟨rfl, rfl⟩ G_ hG_
 simp only [zn] at hG_; subst hG_
 first | refine op_y (y_not (b := true) (r := false) rfl rfl) rfl ?_ | refine op_y (y_not (b := false) (r := true) rfl rfl) rfl ?_ | refine op_y (y_not rfl rfl) rfl ?_
 refine op_y (y_assign rfl) rfl ?_
 refine op_nil ?_
 refine ent_then ?_
 refine cd_iff rfl ?_
 refine cd_seq ?_
 refine cd_drawL [0, 1, 2, 3, 4, 5, 6, 7, 8, 9, 10] [0, 0, 0, 3, 0, 0, 4, 0, 0, 1, 0] mixed_ (by kernel_rfl) ?_
 refine op_y (y_move rfl) rfl ?_
 first | refine op_y (y_nil rfl) rfl ?_ | refine op_y (y_nili rfl) rfl ?_ | refine op_y (y_nilf rfl) rfl ?_
 first | refine op_y (y_fld0 Flow.fo_368_0 rfl) rfl ?_ | refine op_y (y_flda Flow.fo_368_0 rfl) rfl ?_
 apply op_lds Flow.sc_366 rfl rfl
 ·exact rm
 ·rfl
 ·(first | exact fun w h => h | exact fun w h => h.drop | (intro w h; apply Sat.only (h := h); exact sx))
 refine op_y (y_move rfl) rfl ?_
 refine op_y (y_move rfl) rfl ?_
 apply op_c4 Flow.ca_194 rfl rfl (fun e he_ => tFind_ct e p b n room id s _ hid hs h hh hx (.inl rfl))
 ·exact sx
 rintro _ _ ⟨rfl, rfl⟩ G_ hG_
 simp only [zn] at hG_; subst hG_
 refine ⟨by (first | exact fun w h => h | exact fun w h => h.drop | (intro w h; apply Sat.only (h := h); exact sx)), ?_⟩
 first | refine op_y (y_ix0 (j := h) Flow.sl_366 rfl rfl (by omega) (by omega)) rfl ?_ | refine op_y (y_ix (j := h) Flow.sl_366 rfl rfl (by omega) (by omega)) rfl ?_ | refine op_y (y_ixa (j := h) Flow.sl_366 rfl rfl (by omega) (by omega)) rfl ?_
 first | refine op_y (y_fld Flow.fo_370_1 rfl) rfl ?_ | refine op_y (y_flda Flow.fo_370_1 rfl) rfl ?_
 apply op_ld Flow.sc_4 rfl rfl
 ·exact rm
 ·exact flat_get Slot.cs5 (j := 1) [] hx (by decide) rfl
 refine op_y (y_assign rfl) rfl ?_
 refine op_nil ?_
 refine ent_then ?_
 refine cd_iff rfl ?_
 refine cd_seq ?_
 refine cd_draw ([]) [0, 1, 2, 3, 4, 5, 6, 7, 8, 9] [0, 0, 0, 1, 0, 0, 0, 1, 0, 0] mixed_ (by kernel_rfl) ?_
 refine op_y (y_move rfl) rfl ?_
 first | refine op_y (y_nil rfl) rfl ?_ | refine op_y (y_nili rfl) rfl ?_ | refine op_y (y_nilf rfl) rfl ?_
 first | refine op_y (y_fld Flow.fo_368_1 rfl) rfl ?_ | refine op_y (y_flda Flow.fo_368_1 rfl) rfl ?_
 apply op_ld Flow.sc_3 rfl rfl
 ·exact rm
 ·rfl
 refine op_y (y_move rfl) rfl ?_
 first | refine op_y (y_nil rfl) rfl ?_ | refine op_y (y_nili rfl) rfl ?_ | refine op_y (y_nilf rfl) rfl ?_
 first | refine op_y (y_fld Flow.fo_368_2 rfl) rfl ?_ | refine op_y (y_flda Flow.fo_368_2 rfl) rfl ?_
 apply op_ld Flow.sc_3 rfl rfl
 ·exact rm
 ·rfl
 first | refine op_y (y_ge rfl rfl (decide_eq_true (by omega))) rfl ?_ | refine op_y (y_ge rfl rfl (decide_eq_false (by omega))) rfl ?_ | refine op_y (y_ge rfl rfl rfl) rfl ?_
 refine op_y (y_assign rfl) rfl ?_
 refine op_nil ?_
 refine ent_then ?_
 refine cd_iff rfl ?_
 refine cd_skip ?_
 refine ent_block ?_
 refine ent_then ?_
 refine cd_seq ?_
 refine cd_seq ?_
 refine cd_draw ([]) [0, 1, 2, 3, 4, 5, 6, 7, 8, 9, 10, 11, 12] [0, 0, 0, 1, 0, 0, 0, 0, 0, 1, 0, 0, 0] mixed_ (by kernel_rfl) ?_
 refine op_y (y_move rfl) rfl ?_
 first | refine op_y (y_nil rfl) rfl ?_ | refine op_y (y_nili rfl) rfl ?_ | refine op_y (y_nilf rfl) rfl ?_
 first | refine op_y (y_fld Flow.fo_368_1 rfl) rfl ?_ | refine op_y (y_flda Flow.fo_368_1 rfl) rfl ?_
 apply op_ld Flow.sc_3 rfl rfl
 ·exact rm
 ·rfl
 first | refine op_y (y_add rfl rfl (wi64 (by omega) (by omega))) rfl ?_ | refine op_y (y_add rfl rfl rfl) rfl ?_
 first | refine op_y (y_mul rfl rfl (wi64 (by omega) (by omega))) rfl ?_ | refine op_y (y_mul rfl rfl rfl) rfl ?_
 refine op_y (y_move rfl) rfl ?_
 first | refine op_y (y_nil rfl) rfl ?_ | refine op_y (y_nili rfl) rfl ?_ | refine op_y (y_nilf rfl) rfl ?_
 first | refine op_y (y_fld0 Flow.fo_368_0 rfl) rfl ?_ | refine op_y (y_flda Flow.fo_368_0 rfl) rfl ?_
 apply op_ld Flow.sc_366 rfl rfl
 ·exact rm
 ·rfl
 refine op_y (y_len Flow.un_366 rfl) rfl ?_
 first | refine op_y (y_mul rfl rfl (wi64 (by omega) (by omega))) rfl ?_ | refine op_y (y_mul rfl rfl rfl) rfl ?_
 first | refine op_y (y_gt rfl rfl (decide_eq_true (by omega))) rfl ?_ | refine op_y (y_gt rfl rfl (decide_eq_false (by omega))) rfl ?_ | refine op_y (y_gt rfl rfl rfl) rfl ?_
 refine op_nil ?_
 refine ent_then ?_
 refine cd_iff rfl ?_
 refine cd_skip ?_
 refine ent_then ?_
 refine cd_seq ?_
 refine cd_drawL [0, 1, 2, 3, 4, 5, 7, 8, 9, 6, 10, 11] [0, 0, 0, 3, 0, 0, 0, 3, 0, 4, 0, 2] mixed_ (by kernel_rfl) ?_
 refine op_y (y_move rfl) rfl ?_
 first | refine op_y (y_nil rfl) rfl ?_ | refine op_y (y_nili rfl) rfl ?_ | refine op_y (y_nilf rfl) rfl ?_
 first | refine op_y (y_fld0 Flow.fo_368_0 rfl) rfl ?_ | refine op_y (y_flda Flow.fo_368_0 rfl) rfl ?_
 apply op_lds Flow.sc_366 rfl rfl
 ·exact rm
 ·rfl
 ·(first | exact fun w h => h | exact fun w h => h.drop | (intro w h; apply Sat.only (h := h); exact sx))
 refine op_y (y_move rfl) rfl ?_
 refine op_y (y_move rfl) rfl ?_
 refine op_y (y_move rfl) rfl ?_
 apply op_ldas Flow.ag_305 rfl rfl
 ·exact rm
 ·(first | ((try simp only [zz, splice, Nat.reduceAdd, Nat.zero_mul, Own.cs, Slot.cs]) <;> rfl) | rfl)
 ·rfl
 ·(first | exact fun w h => h | exact fun w h => h.drop | (intro w h; apply Sat.only (h := h); exact sx))
 apply op_build Flow.pl_370 Flow.ze_370 rfl rfl
 ·(first | ((try simp [fillL, splice, Value.cells, Own.cs, Slot.cs]) <;> rfl) | rfl)
 apply op_c4 Flow.ca_194 rfl rfl (fun e he_ => tFind_ct e p b n room id s _ hid hs h hh hx (.inl rfl))
 ·exact sx
 rintro _ _ ⟨rfl, rfl⟩ G_ hG_
 simp only [zn] at hG_; subst hG_
 refine ⟨by (first | exact fun w h => h | exact fun w h => h.drop | (intro w h; apply Sat.only (h := h); exact sx)), ?_⟩
 first | refine op_y (y_ix0 (j := h) Flow.sl_366 rfl rfl (by omega) (by omega)) rfl ?_ | refine op_y (y_ix (j := h) Flow.sl_366 rfl rfl (by omega) (by omega)) rfl ?_ | refine op_y (y_ixa (j := h) Flow.sl_366 rfl rfl (by omega) (by omega)) rfl ?_
 apply op_sta Flow.sz_370 rfl rfl rfl rfl
 ·exact rm
 ·(rw [List.length_append, flat_length Slot.cs5, hs]; simp; omega)
 ·exact flat_splice Slot.cs5 (⟨id, true, o⟩ : Slot) [] (by omega)
 refine op_nil ?_
 refine ent_then ?_
 refine cd_seq ?_
 refine cd_region [0, 0, 0, 1, 0, 0, 0, 2] ?_
 refine op_y (y_move rfl) rfl ?_
 first | refine op_y (y_nil rfl) rfl ?_ | refine op_y (y_nili rfl) rfl ?_ | refine op_y (y_nilf rfl) rfl ?_
 first | refine op_y (y_fld Flow.fo_368_1 rfl) rfl ?_ | refine op_y (y_flda Flow.fo_368_1 rfl) rfl ?_
 apply op_ld Flow.sc_3 rfl rfl
 ·exact rm
 ·rfl
 first | refine op_y (y_add rfl rfl (wi64 (by omega) (by omega))) rfl ?_ | refine op_y (y_add rfl rfl rfl) rfl ?_
 first | refine op_y (y_nil rfl) rfl ?_ | refine op_y (y_nili rfl) rfl ?_ | refine op_y (y_nilf rfl) rfl ?_
 first | refine op_y (y_fld Flow.fo_368_1 rfl) rfl ?_ | refine op_y (y_flda Flow.fo_368_1 rfl) rfl ?_
 apply op_st1 Flow.sz_3 rfl rfl rfl
 ·exact rm
 ·rfl
 ·(first | ((try simp only [zz, splice, Nat.reduceAdd, Nat.zero_mul, Own.cs, Slot.cs]) <;> rfl) | rfl)
 refine op_nil ?_
 refine ent_then ?_
 refine cd_seq ?_
 refine cd_region [0] ?_
 refine op_y (y_assign rfl) rfl ?_
 refine op_nil ?_
 refine ent_then ?_
 refine cd_ret ?_
 refine ent_ret1 rfl rfl ⟨_, ⟨rfl, rfl⟩, fun w hw => ?_⟩
 show Sat [pt p 368 [.slice (some ⟨b, 0, none⟩) 8 8, .int .i64 ((n : Int) + 1), .int .i64 room], pt b 370 (flat Slot.cs (s.set h ⟨id, true, o⟩) ++ [])] c w
 apply Sat.only (h := hw)
 exact sx
theorem tNew_ct (c : Cx) : Ct Tryz.prog 150 #[.int .i64 64] c [] fun v L => ∃ p b, v = .tuple #[.pointer (some ⟨p, 0, none⟩), .int .i64 0] ∧ L = tabL p b 0 64 (List.replicate 8 ⟨0, false, ⟨0, 0, 0⟩⟩) := by
 refine ct_fn (args := [.int .i64 64]) [(0, .int .i64 64)] Tryz.func150 rfl Tryz.ntmps150 rfl ⟨rfl, trivial⟩ ?_
 refine cd_seq ?_
 refine cd_region [0, 0] ?_
 refine op_y (y_assign rfl) rfl ?_
 refine op_y (y_assign rfl) rfl ?_
 refine op_nil ?_
 refine ent_then ?_
 refine cd_seq ?_
 refine cd_seq ?_
 refine cd_region [0, 0, 0, 0, 0, 0] ?_
 refine op_y (y_move rfl) rfl ?_
 first | refine op_y (y_lt rfl rfl (decide_eq_true (by omega))) rfl ?_ | refine op_y (y_lt rfl rfl (decide_eq_false (by omega))) rfl ?_ | refine op_y (y_lt rfl rfl rfl) rfl ?_
 refine op_y (y_move rfl) rfl ?_
 first
  | refine op_s1 rfl rfl ⟨rfl, rfl⟩ ?_
  | refine op_s2 rfl rfl ⟨rfl, rfl⟩ ?_
  | (refine op_g rfl rfl ?_
     refine op_y (y_move rfl) rfl ?_)
 first
  | refine op_s1 rfl rfl ⟨rfl, rfl⟩ ?_
  | refine op_s2 rfl rfl ⟨rfl, rfl⟩ ?_
  | (refine op_g rfl rfl ?_
     first | refine op_y (y_gt rfl rfl (decide_eq_true (by omega))) rfl ?_ | refine op_y (y_gt rfl rfl (decide_eq_false (by omega))) rfl ?_ | refine op_y (y_gt rfl rfl rfl) rfl ?_)
 first | refine op_y (y_pickt rfl rfl) rfl ?_ | refine op_y (y_pickf rfl rfl) rfl ?_ | refine op_y (y_pick rfl rfl rfl) rfl ?_
 refine op_nil ?_
 refine ent_then ?_
 refine cd_iff rfl ?_
 refine cd_skip ?_
 refine ent_then ?_
 refine cd_seq ?_
 refine cd_region [2, 0, 0, 2, 0, 0] ?_
 apply op_mks (k := 8) Flow.sl_366 Flow.ze_370 rfl rfl rfl rfl
 ·first | rfl | omega
 ·decide
 ·omega
 ·omega
 ·omega
 intro b10
 refine op_y (y_move rfl) rfl ?_
 apply op_build Flow.pl_368 Flow.ze_368 rfl rfl
 ·(first | ((try simp [fillL, splice, Value.cells, Own.cs, Slot.cs]) <;> rfl) | rfl)
 refine op_boxa rfl rfl fun b13 => ?_
 refine op_y (y_assign rfl) rfl ?_
 refine op_y (y_assign rfl) rfl ?_
 refine op_nil ?_
 refine ent_then ?_
 refine cd_ret ?_
 refine ent_ret2 rfl rfl rfl ⟨_, ⟨b13, b10, rfl, rfl⟩, fun w h => ?_⟩
 rw [flat_rep (enc := Slot.cs) (a := ⟨0, false, ⟨0, 0, 0⟩⟩) (z := [.int .u32 0, .bool false, .int .i64 0, .int .u64 0, .int .u64 0]) rfl 8, ← List.append_nil (flat _ _)] at h
 show Sat [pt b13 368 [.slice (some ⟨b10, 0, none⟩) 8 8, .int .i64 0, .int .i64 64], pt b10 370 (flat Slot.cs (List.replicate 8 ⟨0, false, ⟨0, 0, 0⟩⟩) ++ [])] c w
 apply Sat.only (h := h)
 exact sx
end Go.Proofs.YtfkadaodnaaceaaGreatDoor
/- The gate of two flows, of which one is asked for: what comes in, and what goes. -/
namespace Go.Proofs.YtfkadaodnaaceaaGreatDoor
open Go Go.SL
theorem Gate.ag_303 : aggK Tryz.prog 303 = some 2 := by kernel_rfl
theorem Gate.ag_305 : aggK Tryz.prog 305 = some 3 := by kernel_rfl
theorem Gate.ca_204 : callable Tryz.prog 204 = true := by kernel_rfl
theorem Gate.ca_205 : callable Tryz.prog 205 = true := by kernel_rfl
theorem Gate.ca_209 : callable Tryz.prog 209 = true := by kernel_rfl
theorem Gate.ca_210 : callable Tryz.prog 210 = true := by kernel_rfl
theorem Gate.ca_211 : callable Tryz.prog 211 = true := by kernel_rfl
theorem Gate.ca_235 : callable Tryz.prog 235 = true := by kernel_rfl
theorem Gate.ca_236 : callable Tryz.prog 236 = true := by kernel_rfl
theorem Gate.ca_237 : callable Tryz.prog 237 = true := by kernel_rfl
theorem Gate.fo_25_4 : fieldOff Tryz.prog 25 4 = some 4 := by kernel_rfl
theorem Gate.fo_25_5 : fieldOff Tryz.prog 25 5 = some 5 := by kernel_rfl
theorem Gate.fo_25_6 : fieldOff Tryz.prog 25 6 = some 6 := by kernel_rfl
theorem Gate.fo_25_7 : fieldOff Tryz.prog 25 7 = some 7 := by kernel_rfl
theorem Gate.fo_303_0 : fieldOff Tryz.prog 303 0 = some 0 := by kernel_rfl
theorem Gate.fo_303_1 : fieldOff Tryz.prog 303 1 = some 1 := by kernel_rfl
theorem Gate.fo_305_0 : fieldOff Tryz.prog 305 0 = some 0 := by kernel_rfl
theorem Gate.fo_305_1 : fieldOff Tryz.prog 305 1 = some 2 := by kernel_rfl
theorem Gate.fo_308_0 : fieldOff Tryz.prog 308 0 = some 0 := by kernel_rfl
theorem Gate.fo_308_1 : fieldOff Tryz.prog 308 1 = some 11 := by kernel_rfl
theorem Gate.fo_308_2 : fieldOff Tryz.prog 308 2 = some 13 := by kernel_rfl
theorem Gate.pl_303 : placesK Tryz.prog 303 = some [(0, 1), (1, 1)] := by kernel_rfl
theorem Gate.sc_3 : scalarT Tryz.prog 3 = true := by kernel_rfl
theorem Gate.sc_22 : scalarT Tryz.prog 22 = true := by kernel_rfl
theorem Gate.sc_299 : scalarT Tryz.prog 299 = true := by kernel_rfl
theorem Gate.sz_303 : sizeK Tryz.prog 303 = some 2 := by kernel_rfl
theorem Gate.sz_305 : sizeK Tryz.prog 305 = some 3 := by kernel_rfl
theorem Gate.un_208 : Tryz.prog.underlying 208 = some (.pointer 308) := by kernel_rfl
theorem Gate.ze_303 : zeroC Tryz.prog 303 = some [.int .i64 0, .int .u64 0] := by kernel_rfl
theorem Gate.ze_305 : zeroC Tryz.prog 305 = some [.int .i64 0, .int .u64 0, .int .u64 0] := by kernel_rfl
set_option maxRecDepth 100000
set_option maxHeartbeats 400000
def slots (pk by_ : Nat) : List Slot := [⟨0, false, ⟨0, 0, 0⟩⟩, ⟨0, false, ⟨0, 0, 0⟩⟩, ⟨0, false, ⟨0, 0, 0⟩⟩, ⟨1, true, ⟨pk, by_, 5000⟩⟩, ⟨0, false, ⟨0, 0, 0⟩⟩, ⟨0, false, ⟨0, 0, 0⟩⟩, ⟨2, true, ⟨0, 0, 50⟩⟩, ⟨0, false, ⟨0, 0, 0⟩⟩]
abbrev gcs (rk bk : Nat) (pk by_ : Int) (p : Nat) : List Value := [.int .i64 rk, .int .i64 bk, .int .i64 1, .int .i64 2, .int .i64 9, .int .u64 5000, .int .i64 0, .int .u64 1000, .int .u64 1000, .int .u64 1000, .slice none 0 0, .int .i64 pk, .int .u64 by_, .pointer (some ⟨p, 0, none⟩)]
/-- A gate at block g: so many packets, and bytes, wait. -/
def gateI (g rk bk pk by_ : Nat) : As := fun h => ∃ x : Nat × Nat, sepL (pt g 308 (gcs rk bk pk by_ x.1) :: tabL x.1 x.2 2 64 (slots pk by_)) h
theorem gateI_open {g rk bk pk by_ : Nat} {M : List As} {c : Cx} (w : World) (h : Sat (gateI g rk bk pk by_ :: M) c w) : ∃ x : Nat × Nat, True ∧ Sat (pt g 308 (gcs rk bk pk by_ x.1) :: pt x.1 368 [.slice (some ⟨x.2, 0, none⟩) 8 8, .int .i64 ((2 : Nat) : Int), .int .i64 ((64 : Nat) : Int)] :: pt x.2 370 (flat Slot.cs (slots pk by_) ++ []) :: M) c w := by
 obtain ⟨h1, ⟨x, hs⟩, d, k⟩ := h
 exact ⟨x, trivial, Sat.sepL_iff.1 ⟨h1, hs, d, k⟩⟩
theorem gateI_shut {g rk bk pk by_ : Nat} {M : List As} {c : Cx} {w : World} (p b : Nat) (h : Sat (pt g 308 (gcs rk bk pk by_ p) :: pt p 368 [.slice (some ⟨b, 0, none⟩) 8 8, .int .i64 ((2 : Nat) : Int), .int .i64 ((64 : Nat) : Int)] :: pt b 370 (flat Slot.cs (slots pk by_) ++ []) :: M) c w) : Sat (gateI g rk bk pk by_ :: M) c w := by
 obtain ⟨h1, hs, d, k⟩ := Sat.sepL_iff.2 (show Sat ([_, _, _] ++ M) c w from h)
 exact ⟨h1, ⟨(p, b), hs⟩, d, k⟩
def fitE (pk by_ n : Nat) : Nat := if n = 0 ∨ 1000 < n then 12 else if 9 ≤ pk then 14 else if 5000 - by_ < n then 15 else 0
def mayE (pk by_ n : Nat) : Nat := if fitE pk by_ n ≠ 0 then fitE pk by_ n else if 5000 - by_ ≤ by_ then 17 else 0
theorem home1 : homeN 1 = 3 := by decide
theorem plus_ct (c : Cx) (a b : Int) (n : Nat) (ha : 0 ≤ a) (ha2 : a ≤ 1000000) (hb : 0 ≤ b) (hb2 : b ≤ 1000000) (hn : n ≤ 1000000) : Ct Tryz.prog 237 #[.agg [Value.int .i64 a, .int .u64 b].toArray, .int .u64 n] c [] fun v L => v = .agg [Value.int .i64 (a + 1), .int .u64 (b + n)].toArray ∧ L = [] := by
 refine ct_fn (args := [.agg [Value.int .i64 a, .int .u64 b].toArray, .int .u64 n]) [(0, .agg [Value.int .i64 a, .int .u64 b].toArray), (1, .int .u64 n)] Tryz.func237 rfl Tryz.ntmps237 rfl ⟨rfl, rfl, trivial⟩ ?_
 refine cd_seq ?_
 refine cd_region [2, 2] ?_
 refine op_boxa rfl rfl fun b2 => ?_
 refine op_alloc Gate.ze_303 rfl fun b4 => ?_
 refine op_nil ?_
 refine ent_then ?_
 refine cd_seq ?_
 refine cd_region [0, 1, 0, 0, 1, 0, 0, 0, 2] ?_
 first | refine op_y (y_fld0 Gate.fo_303_0 rfl) rfl ?_ | refine op_y (y_flda Gate.fo_303_0 rfl) rfl ?_
 apply op_ld Gate.sc_3 rfl rfl
 ·exact rm
 ·rfl
 first | refine op_y (y_add rfl rfl (wi64 (by omega) (by omega))) rfl ?_ | refine op_y (y_add rfl rfl rfl) rfl ?_
 first | refine op_y (y_fld Gate.fo_303_1 rfl) rfl ?_ | refine op_y (y_flda Gate.fo_303_1 rfl) rfl ?_
 apply op_ld Gate.sc_22 rfl rfl
 ·exact rm
 ·rfl
 refine op_y (y_move rfl) rfl ?_
 first | refine op_y (y_add rfl rfl (wu64 (by omega) (by omega))) rfl ?_ | refine op_y (y_add rfl rfl rfl) rfl ?_
 apply op_build Gate.pl_303 Gate.ze_303 rfl rfl
 ·(first | ((try simp [fillL, splice, Value.cells, Own.cs, Slot.cs, gcs]) <;> rfl) | rfl)
 apply op_sta Gate.sz_303 rfl rfl rfl rfl
 ·exact rm
 ·simp
 ·(first | ((try simp only [zz, splice, Nat.reduceAdd, Nat.zero_mul, Own.cs, Slot.cs, gcs]) <;> rfl) | rfl)
 refine op_nil ?_
 refine ent_then ?_
 refine cd_ret ?_
 refine ent_rets (rs := [_]) (vs := [.agg [Value.int .i64 (a + 1), .int .u64 (b + n)].toArray]) (.inl rfl) rfl ⟨⟨_, rfl, .inr ⟨_, 2, rfl, rfl, rds_all (by exact rm), rfl⟩⟩, trivial⟩ ⟨_, ⟨rfl, rfl⟩, fun w h => h.nil_of⟩
theorem less_ct (c : Cx) (a b : Int) (n : Nat) (ha : 1 ≤ a) (ha2 : a ≤ 1000000) (hb : n ≤ b) (hb2 : b ≤ 1000000) (hn : n ≤ 1000000) : Ct Tryz.prog 210 #[.agg [Value.int .i64 a, .int .u64 b].toArray, .int .u64 n] c [] fun v L => v = .agg [Value.int .i64 (a - 1), .int .u64 (b - n)].toArray ∧ L = [] := by
 refine ct_fn (args := [.agg [Value.int .i64 a, .int .u64 b].toArray, .int .u64 n]) [(0, .agg [Value.int .i64 a, .int .u64 b].toArray), (1, .int .u64 n)] Tryz.func210 rfl Tryz.ntmps210 rfl ⟨rfl, rfl, trivial⟩ ?_
 refine cd_seq ?_
 refine cd_region [2, 2] ?_
 refine op_boxa rfl rfl fun b2 => ?_
 refine op_alloc Gate.ze_303 rfl fun b4 => ?_
 refine op_nil ?_
 refine ent_then ?_
 refine cd_seq ?_
 refine cd_region [0, 1, 0, 0, 1, 0, 0, 0, 2] ?_
 first | refine op_y (y_fld0 Gate.fo_303_0 rfl) rfl ?_ | refine op_y (y_flda Gate.fo_303_0 rfl) rfl ?_
 apply op_ld Gate.sc_3 rfl rfl
 ·exact rm
 ·rfl
 first | refine op_y (y_sub rfl rfl (wi64 (by omega) (by omega))) rfl ?_ | refine op_y (y_sub rfl rfl rfl) rfl ?_
 first | refine op_y (y_fld Gate.fo_303_1 rfl) rfl ?_ | refine op_y (y_flda Gate.fo_303_1 rfl) rfl ?_
 apply op_ld Gate.sc_22 rfl rfl
 ·exact rm
 ·rfl
 refine op_y (y_move rfl) rfl ?_
 first | refine op_y (y_sub rfl rfl (wu64 (by omega) (by omega))) rfl ?_ | refine op_y (y_sub rfl rfl rfl) rfl ?_
 apply op_build Gate.pl_303 Gate.ze_303 rfl rfl
 ·(first | ((try simp [fillL, splice, Value.cells, Own.cs, Slot.cs, gcs]) <;> rfl) | rfl)
 apply op_sta Gate.sz_303 rfl rfl rfl rfl
 ·exact rm
 ·simp
 ·(first | ((try simp only [zz, splice, Nat.reduceAdd, Nat.zero_mul, Own.cs, Slot.cs, gcs]) <;> rfl) | rfl)
 refine op_nil ?_
 refine ent_then ?_
 refine cd_ret ?_
 refine ent_rets (rs := [_]) (vs := [.agg [Value.int .i64 (a - 1), .int .u64 (b - n)].toArray]) (.inl rfl) rfl ⟨⟨_, rfl, .inr ⟨_, 2, rfl, rfl, rds_all (by exact rm), rfl⟩⟩, trivial⟩ ⟨_, ⟨rfl, rfl⟩, fun w h => h.nil_of⟩
theorem shift_ct (c : Cx) (a : Nat) : Ct Tryz.prog 236 #[.int .u64 a, .int .i64 0] c [] fun v L => v = .int .u64 a ∧ L = [] := by
 refine ct_fn (args := [.int .u64 a, .int .i64 0]) [(0, .int .u64 a), (1, .int .i64 0)] Tryz.func236 rfl Tryz.ntmps236 rfl ⟨rfl, rfl, trivial⟩ ?_
 by_cases h0 : a = 0
 ·skip
  refine cd_seq ?_
  refine cd_region [0] ?_
  refine op_y (y_assign rfl) rfl ?_
  refine op_nil ?_
  refine ent_then ?_
  refine cd_seq ?_
  refine cd_block ?_
  refine cd_seq ?_
  refine cd_region [0, 0, 0, 0, 0, 0, 0] ?_
  refine op_y (y_move rfl) rfl ?_
  first | refine op_y (y_eq rfl rfl (eqT (by omega))) rfl ?_ | refine op_y (y_eq rfl rfl (eqF (by omega))) rfl ?_ | refine op_y (y_eq rfl rfl rfl) rfl ?_
  refine op_y (y_move rfl) rfl ?_
  first
   | refine op_s1 rfl rfl ⟨rfl, rfl⟩ ?_
   | refine op_s2 rfl rfl ⟨rfl, rfl⟩ ?_
   | (refine op_g rfl rfl ?_
      refine op_y (y_move rfl) rfl ?_)
  first
   | refine op_s1 rfl rfl ⟨rfl, rfl⟩ ?_
   | refine op_s2 rfl rfl ⟨rfl, rfl⟩ ?_
   | (refine op_g rfl rfl ?_
      first | refine op_y (y_le rfl rfl (decide_eq_true (by omega))) rfl ?_ | refine op_y (y_le rfl rfl (decide_eq_false (by omega))) rfl ?_ | refine op_y (y_le rfl rfl rfl) rfl ?_)
  first | refine op_y (y_pickt rfl rfl) rfl ?_ | refine op_y (y_pickf rfl rfl) rfl ?_ | refine op_y (y_pick rfl rfl rfl) rfl ?_
  refine op_y (y_assign rfl) rfl ?_
  refine op_nil ?_
  refine ent_then ?_
  refine cd_ift rfl ?_
  refine cd_seq ?_
  refine cd_region [0, 0] ?_
  refine op_y (y_move rfl) rfl ?_
  refine op_y (y_assign rfl) rfl ?_
  refine op_nil ?_
  refine ent_then ?_
  refine cd_ret ?_
  refine ent_block_ret ?_
  refine ent_thn_ret ?_
  refine ent_ret1 rfl rfl ⟨_, ⟨rfl, rfl⟩, fun w h => h⟩
 ·skip
  refine cd_seq ?_
  refine cd_region [0] ?_
  refine op_y (y_assign rfl) rfl ?_
  refine op_nil ?_
  refine ent_then ?_
  refine cd_seq ?_
  refine cd_block ?_
  refine cd_seq ?_
  refine cd_region [0, 0, 0, 0, 0, 0, 0] ?_
  refine op_y (y_move rfl) rfl ?_
  first | refine op_y (y_eq rfl rfl (eqT (by omega))) rfl ?_ | refine op_y (y_eq rfl rfl (eqF (by omega))) rfl ?_ | refine op_y (y_eq rfl rfl rfl) rfl ?_
  refine op_y (y_move rfl) rfl ?_
  first
   | refine op_s1 rfl rfl ⟨rfl, rfl⟩ ?_
   | refine op_s2 rfl rfl ⟨rfl, rfl⟩ ?_
   | (refine op_g rfl rfl ?_
      refine op_y (y_move rfl) rfl ?_)
  first
   | refine op_s1 rfl rfl ⟨rfl, rfl⟩ ?_
   | refine op_s2 rfl rfl ⟨rfl, rfl⟩ ?_
   | (refine op_g rfl rfl ?_
      first | refine op_y (y_le rfl rfl (decide_eq_true (by omega))) rfl ?_ | refine op_y (y_le rfl rfl (decide_eq_false (by omega))) rfl ?_ | refine op_y (y_le rfl rfl rfl) rfl ?_)
  first | refine op_y (y_pickt rfl rfl) rfl ?_ | refine op_y (y_pickf rfl rfl) rfl ?_ | refine op_y (y_pick rfl rfl rfl) rfl ?_
  refine op_y (y_assign rfl) rfl ?_
  refine op_nil ?_
  refine ent_then ?_
  refine cd_ift rfl ?_
  refine cd_seq ?_
  refine cd_region [0, 0] ?_
  refine op_y (y_move rfl) rfl ?_
  refine op_y (y_assign rfl) rfl ?_
  refine op_nil ?_
  refine ent_then ?_
  refine cd_ret ?_
  refine ent_block_ret ?_
  refine ent_thn_ret ?_
  refine ent_ret1 rfl rfl ⟨_, ⟨rfl, rfl⟩, fun w h => h⟩
theorem gFits_ct (c : Cx) (g rk bk pk by_ n : Nat) (hp : pk ≤ 9) (hb : by_ ≤ 5000) (hn : n < 18446744073709551616) : Ct Tryz.prog 235 #[.pointer (some ⟨g, 0, none⟩), .int .u32 1, .int .u64 n] c [gateI g rk bk pk by_]
 fun v L => v = .int .i64 (fitE pk by_ n : Nat) ∧ L = [gateI g rk bk pk by_] := by
 refine ct_fn (args := [.pointer (some ⟨g, 0, none⟩), .int .u32 1, .int .u64 n]) [(0, .pointer (some ⟨g, 0, none⟩)), (1, .int .u32 1), (2, .int .u64 n)] Tryz.func235 rfl Tryz.ntmps235 rfl ⟨rfl, rfl, rfl, trivial⟩ ?_
 refine cd_open gateI_open ?_
 rintro ⟨p, b⟩ -
 by_cases h1 : n = 0 ∨ 1000 < n
 ·skip
  have hE : fitE pk by_ n = 12 := by simp only [fitE, h1, if_true]
  rw [hE]
  by_cases h0 : n = 0
  ·skip
   refine cd_seq ?_
   refine cd_region [0] ?_
   refine op_y (y_assign rfl) rfl ?_
   refine op_nil ?_
   refine ent_then ?_
   refine cd_seq ?_
   refine cd_seq ?_
   refine cd_region [0, 0] ?_
   refine op_y (y_move rfl) rfl ?_
   first | refine op_y (y_peq (r := false) Gate.un_208 rfl rfl) rfl ?_ | refine op_y (y_peq (r := true) Gate.un_208 rfl rfl) rfl ?_ | refine op_y (y_peq Gate.un_208 rfl rfl) rfl ?_
   refine op_nil ?_
   refine ent_then ?_
   refine cd_iff rfl ?_
   refine cd_skip ?_
   refine ent_then ?_
   refine cd_seq ?_
   refine cd_seq ?_
   refine cd_region [0, 0, 0, 0, 0, 0, 0, 0, 1, 0, 0] ?_
   refine op_y (y_move rfl) rfl ?_
   first | refine op_y (y_eq rfl rfl (eqT (by omega))) rfl ?_ | refine op_y (y_eq rfl rfl (eqF (by omega))) rfl ?_ | refine op_y (y_eq rfl rfl rfl) rfl ?_
   refine op_y (y_move rfl) rfl ?_
   first
    | refine op_s1 rfl rfl ⟨rfl, rfl⟩ ?_
    | refine op_s2 rfl rfl ⟨rfl, rfl⟩ ?_
    | (refine op_g rfl rfl ?_
       refine op_y (y_move rfl) rfl ?_)
   first
    | refine op_s1 rfl rfl ⟨rfl, rfl⟩ ?_
    | refine op_s2 rfl rfl ⟨rfl, rfl⟩ ?_
    | (refine op_g rfl rfl ?_
       refine op_y (y_move rfl) rfl ?_)
   first
    | refine op_s1 rfl rfl ⟨rfl, rfl⟩ ?_
    | refine op_s2 rfl rfl ⟨rfl, rfl⟩ ?_
    | (refine op_g rfl rfl ?_
       first | refine op_y (y_nil rfl) rfl ?_ | refine op_y (y_nili rfl) rfl ?_ | refine op_y (y_nilf rfl) rfl ?_)
   first
    | refine op_s1 rfl rfl ⟨rfl, rfl⟩ ?_
    | refine op_s2 rfl rfl ⟨rfl, rfl⟩ ?_
    | (refine op_g rfl rfl ?_
       first | refine op_y (y_fld0 Gate.fo_308_0 rfl) rfl ?_ | refine op_y (y_flda Gate.fo_308_0 rfl) rfl ?_)
   first
    | refine op_s1 rfl rfl ⟨rfl, rfl⟩ ?_
    | refine op_s2 rfl rfl ⟨rfl, rfl⟩ ?_
    | (refine op_g rfl rfl ?_
       first | refine op_y (y_fld Gate.fo_25_7 rfl) rfl ?_ | refine op_y (y_flda Gate.fo_25_7 rfl) rfl ?_)
   first
    | refine op_s1 rfl rfl ⟨rfl, rfl⟩ ?_
    | refine op_s2 rfl rfl ⟨rfl, rfl⟩ ?_
    | (refine op_g rfl rfl ?_
       apply op_ld Gate.sc_22 rfl rfl
       ·exact rm
       ·rfl)
   first
    | refine op_s1 rfl rfl ⟨rfl, rfl⟩ ?_
    | refine op_s2 rfl rfl ⟨rfl, rfl⟩ ?_
    | (refine op_g rfl rfl ?_
       first | refine op_y (y_gt rfl rfl (decide_eq_true (by omega))) rfl ?_ | refine op_y (y_gt rfl rfl (decide_eq_false (by omega))) rfl ?_ | refine op_y (y_gt rfl rfl rfl) rfl ?_)
   first | refine op_y (y_pickt rfl rfl) rfl ?_ | refine op_y (y_pickf rfl rfl) rfl ?_ | refine op_y (y_pick rfl rfl rfl) rfl ?_
   refine op_nil ?_
   refine ent_then ?_
   refine cd_ift rfl ?_
   refine cd_seq ?_
   refine cd_region [0] ?_
   refine op_y (y_assign rfl) rfl ?_
   refine op_nil ?_
   refine ent_then ?_
   refine cd_ret ?_
   refine ent_thn_ret ?_
   refine ent_ret1 rfl rfl ⟨_, ⟨rfl, rfl⟩, fun w h => gateI_shut p b ?_⟩
   apply Sat.only (h := h)
   exact sx
  ·skip
   refine cd_seq ?_
   refine cd_region [0] ?_
   refine op_y (y_assign rfl) rfl ?_
   refine op_nil ?_
   refine ent_then ?_
   refine cd_seq ?_
   refine cd_seq ?_
   refine cd_region [0, 0] ?_
   refine op_y (y_move rfl) rfl ?_
   first | refine op_y (y_peq (r := false) Gate.un_208 rfl rfl) rfl ?_ | refine op_y (y_peq (r := true) Gate.un_208 rfl rfl) rfl ?_ | refine op_y (y_peq Gate.un_208 rfl rfl) rfl ?_
   refine op_nil ?_
   refine ent_then ?_
   refine cd_iff rfl ?_
   refine cd_skip ?_
   refine ent_then ?_
   refine cd_seq ?_
   refine cd_seq ?_
   refine cd_region [0, 0, 0, 0, 0, 0, 0, 0, 1, 0, 0] ?_
   refine op_y (y_move rfl) rfl ?_
   first | refine op_y (y_eq rfl rfl (eqT (by omega))) rfl ?_ | refine op_y (y_eq rfl rfl (eqF (by omega))) rfl ?_ | refine op_y (y_eq rfl rfl rfl) rfl ?_
   refine op_y (y_move rfl) rfl ?_
   first
    | refine op_s1 rfl rfl ⟨rfl, rfl⟩ ?_
    | refine op_s2 rfl rfl ⟨rfl, rfl⟩ ?_
    | (refine op_g rfl rfl ?_
       refine op_y (y_move rfl) rfl ?_)
   first
    | refine op_s1 rfl rfl ⟨rfl, rfl⟩ ?_
    | refine op_s2 rfl rfl ⟨rfl, rfl⟩ ?_
    | (refine op_g rfl rfl ?_
       refine op_y (y_move rfl) rfl ?_)
   first
    | refine op_s1 rfl rfl ⟨rfl, rfl⟩ ?_
    | refine op_s2 rfl rfl ⟨rfl, rfl⟩ ?_
    | (refine op_g rfl rfl ?_
       first | refine op_y (y_nil rfl) rfl ?_ | refine op_y (y_nili rfl) rfl ?_ | refine op_y (y_nilf rfl) rfl ?_)
   first
    | refine op_s1 rfl rfl ⟨rfl, rfl⟩ ?_
    | refine op_s2 rfl rfl ⟨rfl, rfl⟩ ?_
    | (refine op_g rfl rfl ?_
       first | refine op_y (y_fld0 Gate.fo_308_0 rfl) rfl ?_ | refine op_y (y_flda Gate.fo_308_0 rfl) rfl ?_)
   first
    | refine op_s1 rfl rfl ⟨rfl, rfl⟩ ?_
    | refine op_s2 rfl rfl ⟨rfl, rfl⟩ ?_
    | (refine op_g rfl rfl ?_
       first | refine op_y (y_fld Gate.fo_25_7 rfl) rfl ?_ | refine op_y (y_flda Gate.fo_25_7 rfl) rfl ?_)
   first
    | refine op_s1 rfl rfl ⟨rfl, rfl⟩ ?_
    | refine op_s2 rfl rfl ⟨rfl, rfl⟩ ?_
    | (refine op_g rfl rfl ?_
       apply op_ld Gate.sc_22 rfl rfl
       ·exact rm
       ·rfl)
   first
    | refine op_s1 rfl rfl ⟨rfl, rfl⟩ ?_
    | refine op_s2 rfl rfl ⟨rfl, rfl⟩ ?_
    | (refine op_g rfl rfl ?_
       first | refine op_y (y_gt rfl rfl (decide_eq_true (by omega))) rfl ?_ | refine op_y (y_gt rfl rfl (decide_eq_false (by omega))) rfl ?_ | refine op_y (y_gt rfl rfl rfl) rfl ?_)
   first | refine op_y (y_pickt rfl rfl) rfl ?_ | refine op_y (y_pickf rfl rfl) rfl ?_ | refine op_y (y_pick rfl rfl rfl) rfl ?_
   refine op_nil ?_
   refine ent_then ?_
   refine cd_ift rfl ?_
   refine cd_seq ?_
   refine cd_region [0] ?_
   refine op_y (y_assign rfl) rfl ?_
   refine op_nil ?_
   refine ent_then ?_
   refine cd_ret ?_
   refine ent_thn_ret ?_
   refine ent_ret1 rfl rfl ⟨_, ⟨rfl, rfl⟩, fun w h => gateI_shut p b ?_⟩
   apply Sat.only (h := h)
   exact sx
 ·skip
  refine cd_seq ?_
  refine cd_region [0] ?_
  refine op_y (y_assign rfl) rfl ?_
  refine op_nil ?_
  refine ent_then ?_
  refine cd_seq ?_
  refine cd_seq ?_
  refine cd_region [0, 0] ?_
  refine op_y (y_move rfl) rfl ?_
  first | refine op_y (y_peq (r := false) Gate.un_208 rfl rfl) rfl ?_ | refine op_y (y_peq (r := true) Gate.un_208 rfl rfl) rfl ?_ | refine op_y (y_peq Gate.un_208 rfl rfl) rfl ?_
  refine op_nil ?_
  refine ent_then ?_
  refine cd_iff rfl ?_
  refine cd_skip ?_
  refine ent_then ?_
  refine cd_seq ?_
  refine cd_seq ?_
  refine cd_region [0, 0, 0, 0, 0, 0, 0, 0, 1, 0, 0] ?_
  refine op_y (y_move rfl) rfl ?_
  first | refine op_y (y_eq rfl rfl (eqT (by omega))) rfl ?_ | refine op_y (y_eq rfl rfl (eqF (by omega))) rfl ?_ | refine op_y (y_eq rfl rfl rfl) rfl ?_
  refine op_y (y_move rfl) rfl ?_
  first
   | refine op_s1 rfl rfl ⟨rfl, rfl⟩ ?_
   | refine op_s2 rfl rfl ⟨rfl, rfl⟩ ?_
   | (refine op_g rfl rfl ?_
      refine op_y (y_move rfl) rfl ?_)
  first
   | refine op_s1 rfl rfl ⟨rfl, rfl⟩ ?_
   | refine op_s2 rfl rfl ⟨rfl, rfl⟩ ?_
   | (refine op_g rfl rfl ?_
      refine op_y (y_move rfl) rfl ?_)
  first
   | refine op_s1 rfl rfl ⟨rfl, rfl⟩ ?_
   | refine op_s2 rfl rfl ⟨rfl, rfl⟩ ?_
   | (refine op_g rfl rfl ?_
      first | refine op_y (y_nil rfl) rfl ?_ | refine op_y (y_nili rfl) rfl ?_ | refine op_y (y_nilf rfl) rfl ?_)
  first
   | refine op_s1 rfl rfl ⟨rfl, rfl⟩ ?_
   | refine op_s2 rfl rfl ⟨rfl, rfl⟩ ?_
   | (refine op_g rfl rfl ?_
      first | refine op_y (y_fld0 Gate.fo_308_0 rfl) rfl ?_ | refine op_y (y_flda Gate.fo_308_0 rfl) rfl ?_)
  first
   | refine op_s1 rfl rfl ⟨rfl, rfl⟩ ?_
   | refine op_s2 rfl rfl ⟨rfl, rfl⟩ ?_
   | (refine op_g rfl rfl ?_
      first | refine op_y (y_fld Gate.fo_25_7 rfl) rfl ?_ | refine op_y (y_flda Gate.fo_25_7 rfl) rfl ?_)
  first
   | refine op_s1 rfl rfl ⟨rfl, rfl⟩ ?_
   | refine op_s2 rfl rfl ⟨rfl, rfl⟩ ?_
   | (refine op_g rfl rfl ?_
      apply op_ld Gate.sc_22 rfl rfl
      ·exact rm
      ·rfl)
  first
   | refine op_s1 rfl rfl ⟨rfl, rfl⟩ ?_
   | refine op_s2 rfl rfl ⟨rfl, rfl⟩ ?_
   | (refine op_g rfl rfl ?_
      first | refine op_y (y_gt rfl rfl (decide_eq_true (by omega))) rfl ?_ | refine op_y (y_gt rfl rfl (decide_eq_false (by omega))) rfl ?_ | refine op_y (y_gt rfl rfl rfl) rfl ?_)
  first | refine op_y (y_pickt rfl rfl) rfl ?_ | refine op_y (y_pickf rfl rfl) rfl ?_ | refine op_y (y_pick rfl rfl rfl) rfl ?_
  refine op_nil ?_
  refine ent_then ?_
  refine cd_iff rfl ?_
  refine cd_skip ?_
  refine ent_then ?_
  refine cd_seq ?_
  refine cd_region [0, 0, 0, 1, 0, 2, 0, 0, 0, 2, 2, 0] ?_
  refine op_y (y_move rfl) rfl ?_
  first | refine op_y (y_nil rfl) rfl ?_ | refine op_y (y_nili rfl) rfl ?_ | refine op_y (y_nilf rfl) rfl ?_
  first | refine op_y (y_fld Gate.fo_308_2 rfl) rfl ?_ | refine op_y (y_flda Gate.fo_308_2 rfl) rfl ?_
  apply op_ld Gate.sc_299 rfl rfl
  ·exact rm
  ·rfl
  refine op_y (y_move rfl) rfl ?_
  apply op_c Gate.ca_209 rfl rfl (fun e he_ => tGet_ct e p b 2 64 1 (slots pk by_) ⟨1, true, ⟨pk, by_, 5000⟩⟩ (by decide) rfl 3 home1 rfl rfl rfl)
  ·exact sx
  rintro _ _ ⟨rfl, rfl⟩ G_ hG_
  simp only [zn] at hG_; subst hG_
  by_cases h2 : 9 ≤ pk
  ·skip
   have hE : fitE pk by_ n = 14 := by simp only [fitE, h1, h2, if_true, if_false]
   rw [hE]
   refine op_y (y_move rfl) rfl ?_
   refine op_y (y_ext rfl rfl) rfl ?_
   refine op_y (y_ext rfl rfl) rfl ?_
   refine op_alloc Gate.ze_305 rfl fun b7 => ?_
   apply op_sta Gate.sz_305 rfl rfl rfl rfl
   ·exact rm
   ·simp
   ·(first | ((try simp only [zz, splice, Nat.reduceAdd, Nat.zero_mul, Own.cs, Slot.cs, gcs]) <;> rfl) | rfl)
   refine op_y (y_assign rfl) rfl ?_
   refine op_nil ?_
   refine ent_then ?_
   refine cd_seq ?_
   refine cd_block ?_
   refine cd_seq ?_
   refine cd_region [0, 0, 0] ?_
   refine op_y (y_move rfl) rfl ?_
   first | refine op_y (y_not (b := true) (r := false) rfl rfl) rfl ?_ | refine op_y (y_not (b := false) (r := true) rfl rfl) rfl ?_ | refine op_y (y_not rfl rfl) rfl ?_
   refine op_y (y_assign rfl) rfl ?_
   refine op_nil ?_
   refine ent_then ?_
   refine cd_iff rfl ?_
   refine cd_seq ?_
   refine cd_draw ([]) [0, 1, 2, 3, 4, 5, 6, 7, 8, 9, 10, 11] [0, 0, 0, 0, 1, 0, 0, 0, 0, 1, 0, 0] mixed_ (by kernel_rfl) ?_
   refine op_y (y_move rfl) rfl ?_
   first | refine op_y (y_nil rfl) rfl ?_ | refine op_y (y_nili rfl) rfl ?_ | refine op_y (y_nilf rfl) rfl ?_
   first | refine op_y (y_fld Gate.fo_308_1 rfl) rfl ?_ | refine op_y (y_flda Gate.fo_308_1 rfl) rfl ?_
   first | refine op_y (y_fld0 Gate.fo_303_0 rfl) rfl ?_ | refine op_y (y_flda Gate.fo_303_0 rfl) rfl ?_
   apply op_ld Gate.sc_3 rfl rfl
   ·exact rm
   ·rfl
   refine op_y (y_move rfl) rfl ?_
   first | refine op_y (y_nil rfl) rfl ?_ | refine op_y (y_nili rfl) rfl ?_ | refine op_y (y_nilf rfl) rfl ?_
   first | refine op_y (y_fld0 Gate.fo_308_0 rfl) rfl ?_ | refine op_y (y_flda Gate.fo_308_0 rfl) rfl ?_
   first | refine op_y (y_fld Gate.fo_25_4 rfl) rfl ?_ | refine op_y (y_flda Gate.fo_25_4 rfl) rfl ?_
   apply op_ld Gate.sc_3 rfl rfl
   ·exact rm
   ·rfl
   first | refine op_y (y_ge rfl rfl (decide_eq_true (by omega))) rfl ?_ | refine op_y (y_ge rfl rfl (decide_eq_false (by omega))) rfl ?_ | refine op_y (y_ge rfl rfl rfl) rfl ?_
   refine op_y (y_assign rfl) rfl ?_
   refine op_nil ?_
   refine ent_then ?_
   refine cd_ift rfl ?_
   refine cd_seq ?_
   refine cd_region [0] ?_
   refine op_y (y_assign rfl) rfl ?_
   refine op_nil ?_
   refine ent_then ?_
   refine cd_ret ?_
   refine ent_block_ret ?_
   refine ent_thn_ret ?_
   refine ent_ret1 rfl rfl ⟨_, ⟨rfl, rfl⟩, fun w h => gateI_shut p b ?_⟩
   apply Sat.only (h := h)
   exact sx
  ·skip
   by_cases h3 : 5000 - by_ < n
   ·skip
    have hE : fitE pk by_ n = 15 := by simp only [fitE, h1, h2, h3, if_true, if_false]
    rw [hE]
    refine op_y (y_move rfl) rfl ?_
    refine op_y (y_ext rfl rfl) rfl ?_
    refine op_y (y_ext rfl rfl) rfl ?_
    refine op_alloc Gate.ze_305 rfl fun b7 => ?_
    apply op_sta Gate.sz_305 rfl rfl rfl rfl
    ·exact rm
    ·simp
    ·(first | ((try simp only [zz, splice, Nat.reduceAdd, Nat.zero_mul, Own.cs, Slot.cs, gcs]) <;> rfl) | rfl)
    refine op_y (y_assign rfl) rfl ?_
    refine op_nil ?_
    refine ent_then ?_
    refine cd_seq ?_
    refine cd_block ?_
    refine cd_seq ?_
    refine cd_region [0, 0, 0] ?_
    refine op_y (y_move rfl) rfl ?_
    first | refine op_y (y_not (b := true) (r := false) rfl rfl) rfl ?_ | refine op_y (y_not (b := false) (r := true) rfl rfl) rfl ?_ | refine op_y (y_not rfl rfl) rfl ?_
    refine op_y (y_assign rfl) rfl ?_
    refine op_nil ?_
    refine ent_then ?_
    refine cd_iff rfl ?_
    refine cd_seq ?_
    refine cd_draw ([]) [0, 1, 2, 3, 4, 5, 6, 7, 8, 9, 10, 11] [0, 0, 0, 0, 1, 0, 0, 0, 0, 1, 0, 0] mixed_ (by kernel_rfl) ?_
    refine op_y (y_move rfl) rfl ?_
    first | refine op_y (y_nil rfl) rfl ?_ | refine op_y (y_nili rfl) rfl ?_ | refine op_y (y_nilf rfl) rfl ?_
    first | refine op_y (y_fld Gate.fo_308_1 rfl) rfl ?_ | refine op_y (y_flda Gate.fo_308_1 rfl) rfl ?_
    first | refine op_y (y_fld0 Gate.fo_303_0 rfl) rfl ?_ | refine op_y (y_flda Gate.fo_303_0 rfl) rfl ?_
    apply op_ld Gate.sc_3 rfl rfl
    ·exact rm
    ·rfl
    refine op_y (y_move rfl) rfl ?_
    first | refine op_y (y_nil rfl) rfl ?_ | refine op_y (y_nili rfl) rfl ?_ | refine op_y (y_nilf rfl) rfl ?_
    first | refine op_y (y_fld0 Gate.fo_308_0 rfl) rfl ?_ | refine op_y (y_flda Gate.fo_308_0 rfl) rfl ?_
    first | refine op_y (y_fld Gate.fo_25_4 rfl) rfl ?_ | refine op_y (y_flda Gate.fo_25_4 rfl) rfl ?_
    apply op_ld Gate.sc_3 rfl rfl
    ·exact rm
    ·rfl
    first | refine op_y (y_ge rfl rfl (decide_eq_true (by omega))) rfl ?_ | refine op_y (y_ge rfl rfl (decide_eq_false (by omega))) rfl ?_ | refine op_y (y_ge rfl rfl rfl) rfl ?_
    refine op_y (y_assign rfl) rfl ?_
    refine op_nil ?_
    refine ent_then ?_
    refine cd_iff rfl ?_
    refine cd_seq ?_
    refine cd_draw ([]) [0, 1, 2, 3, 4, 5, 6, 7, 8, 9, 10, 11, 12, 13] [0, 0, 0, 0, 0, 1, 0, 0, 0, 0, 1, 0, 0, 0] mixed_ (by kernel_rfl) ?_
    refine op_y (y_move rfl) rfl ?_
    refine op_y (y_move rfl) rfl ?_
    first | refine op_y (y_nil rfl) rfl ?_ | refine op_y (y_nili rfl) rfl ?_ | refine op_y (y_nilf rfl) rfl ?_
    first | refine op_y (y_fld0 Gate.fo_308_0 rfl) rfl ?_ | refine op_y (y_flda Gate.fo_308_0 rfl) rfl ?_
    first | refine op_y (y_fld Gate.fo_25_5 rfl) rfl ?_ | refine op_y (y_flda Gate.fo_25_5 rfl) rfl ?_
    apply op_ld Gate.sc_22 rfl rfl
    ·exact rm
    ·rfl
    refine op_y (y_move rfl) rfl ?_
    first | refine op_y (y_nil rfl) rfl ?_ | refine op_y (y_nili rfl) rfl ?_ | refine op_y (y_nilf rfl) rfl ?_
    first | refine op_y (y_fld Gate.fo_308_1 rfl) rfl ?_ | refine op_y (y_flda Gate.fo_308_1 rfl) rfl ?_
    first | refine op_y (y_fld Gate.fo_303_1 rfl) rfl ?_ | refine op_y (y_flda Gate.fo_303_1 rfl) rfl ?_
    apply op_ld Gate.sc_22 rfl rfl
    ·exact rm
    ·rfl
    first | refine op_y (y_sub rfl rfl (wu64 (by omega) (by omega))) rfl ?_ | refine op_y (y_sub rfl rfl rfl) rfl ?_
    first | refine op_y (y_gt rfl rfl (decide_eq_true (by omega))) rfl ?_ | refine op_y (y_gt rfl rfl (decide_eq_false (by omega))) rfl ?_ | refine op_y (y_gt rfl rfl rfl) rfl ?_
    refine op_y (y_assign rfl) rfl ?_
    refine op_nil ?_
    refine ent_then ?_
    refine cd_ift rfl ?_
    refine cd_seq ?_
    refine cd_region [0] ?_
    refine op_y (y_assign rfl) rfl ?_
    refine op_nil ?_
    refine ent_then ?_
    refine cd_ret ?_
    refine ent_block_ret ?_
    refine ent_thn_ret ?_
    refine ent_ret1 rfl rfl ⟨_, ⟨rfl, rfl⟩, fun w h => gateI_shut p b ?_⟩
    apply Sat.only (h := h)
    exact sx
   ·skip
    have hE : fitE pk by_ n = 0 := by simp only [fitE, h1, h2, h3, if_false]
    rw [hE]
    refine op_y (y_move rfl) rfl ?_
    refine op_y (y_ext rfl rfl) rfl ?_
    refine op_y (y_ext rfl rfl) rfl ?_
    refine op_alloc Gate.ze_305 rfl fun b7 => ?_
    apply op_sta Gate.sz_305 rfl rfl rfl rfl
    ·exact rm
    ·simp
    ·(first | ((try simp only [zz, splice, Nat.reduceAdd, Nat.zero_mul, Own.cs, Slot.cs, gcs]) <;> rfl) | rfl)
    refine op_y (y_assign rfl) rfl ?_
    refine op_nil ?_
    refine ent_then ?_
    refine cd_seq ?_
    refine cd_block ?_
    refine cd_seq ?_
    refine cd_region [0, 0, 0] ?_
    refine op_y (y_move rfl) rfl ?_
    first | refine op_y (y_not (b := true) (r := false) rfl rfl) rfl ?_ | refine op_y (y_not (b := false) (r := true) rfl rfl) rfl ?_ | refine op_y (y_not rfl rfl) rfl ?_
    refine op_y (y_assign rfl) rfl ?_
    refine op_nil ?_
    refine ent_then ?_
    refine cd_iff rfl ?_
    refine cd_seq ?_
    refine cd_draw ([]) [0, 1, 2, 3, 4, 5, 6, 7, 8, 9, 10, 11] [0, 0, 0, 0, 1, 0, 0, 0, 0, 1, 0, 0] mixed_ (by kernel_rfl) ?_
    refine op_y (y_move rfl) rfl ?_
    first | refine op_y (y_nil rfl) rfl ?_ | refine op_y (y_nili rfl) rfl ?_ | refine op_y (y_nilf rfl) rfl ?_
    first | refine op_y (y_fld Gate.fo_308_1 rfl) rfl ?_ | refine op_y (y_flda Gate.fo_308_1 rfl) rfl ?_
    first | refine op_y (y_fld0 Gate.fo_303_0 rfl) rfl ?_ | refine op_y (y_flda Gate.fo_303_0 rfl) rfl ?_
    apply op_ld Gate.sc_3 rfl rfl
    ·exact rm
    ·rfl
    refine op_y (y_move rfl) rfl ?_
    first | refine op_y (y_nil rfl) rfl ?_ | refine op_y (y_nili rfl) rfl ?_ | refine op_y (y_nilf rfl) rfl ?_
    first | refine op_y (y_fld0 Gate.fo_308_0 rfl) rfl ?_ | refine op_y (y_flda Gate.fo_308_0 rfl) rfl ?_
    first | refine op_y (y_fld Gate.fo_25_4 rfl) rfl ?_ | refine op_y (y_flda Gate.fo_25_4 rfl) rfl ?_
    apply op_ld Gate.sc_3 rfl rfl
    ·exact rm
    ·rfl
    first | refine op_y (y_ge rfl rfl (decide_eq_true (by omega))) rfl ?_ | refine op_y (y_ge rfl rfl (decide_eq_false (by omega))) rfl ?_ | refine op_y (y_ge rfl rfl rfl) rfl ?_
    refine op_y (y_assign rfl) rfl ?_
    refine op_nil ?_
    refine ent_then ?_
    refine cd_iff rfl ?_
    refine cd_seq ?_
    refine cd_draw ([]) [0, 1, 2, 3, 4, 5, 6, 7, 8, 9, 10, 11, 12, 13] [0, 0, 0, 0, 0, 1, 0, 0, 0, 0, 1, 0, 0, 0] mixed_ (by kernel_rfl) ?_
    refine op_y (y_move rfl) rfl ?_
    refine op_y (y_move rfl) rfl ?_
    first | refine op_y (y_nil rfl) rfl ?_ | refine op_y (y_nili rfl) rfl ?_ | refine op_y (y_nilf rfl) rfl ?_
    first | refine op_y (y_fld0 Gate.fo_308_0 rfl) rfl ?_ | refine op_y (y_flda Gate.fo_308_0 rfl) rfl ?_
    first | refine op_y (y_fld Gate.fo_25_5 rfl) rfl ?_ | refine op_y (y_flda Gate.fo_25_5 rfl) rfl ?_
    apply op_ld Gate.sc_22 rfl rfl
    ·exact rm
    ·rfl
    refine op_y (y_move rfl) rfl ?_
    first | refine op_y (y_nil rfl) rfl ?_ | refine op_y (y_nili rfl) rfl ?_ | refine op_y (y_nilf rfl) rfl ?_
    first | refine op_y (y_fld Gate.fo_308_1 rfl) rfl ?_ | refine op_y (y_flda Gate.fo_308_1 rfl) rfl ?_
    first | refine op_y (y_fld Gate.fo_303_1 rfl) rfl ?_ | refine op_y (y_flda Gate.fo_303_1 rfl) rfl ?_
    apply op_ld Gate.sc_22 rfl rfl
    ·exact rm
    ·rfl
    first | refine op_y (y_sub rfl rfl (wu64 (by omega) (by omega))) rfl ?_ | refine op_y (y_sub rfl rfl rfl) rfl ?_
    first | refine op_y (y_gt rfl rfl (decide_eq_true (by omega))) rfl ?_ | refine op_y (y_gt rfl rfl (decide_eq_false (by omega))) rfl ?_ | refine op_y (y_gt rfl rfl rfl) rfl ?_
    refine op_y (y_assign rfl) rfl ?_
    refine op_nil ?_
    refine ent_then ?_
    refine cd_iff rfl ?_
    refine cd_seq ?_
    refine cd_region [0, 0, 1, 0, 1, 0, 0, 0, 0, 1, 0, 0, 1, 0, 0, 0, 0] ?_
    first | refine op_y (y_fld0 Gate.fo_305_0 rfl) rfl ?_ | refine op_y (y_flda Gate.fo_305_0 rfl) rfl ?_
    first | refine op_y (y_fld Gate.fo_303_1 rfl) rfl ?_ | refine op_y (y_flda Gate.fo_303_1 rfl) rfl ?_
    apply op_ld Gate.sc_22 rfl rfl
    ·exact rm
    ·rfl
    first | refine op_y (y_fld Gate.fo_305_1 rfl) rfl ?_ | refine op_y (y_flda Gate.fo_305_1 rfl) rfl ?_
    apply op_ld Gate.sc_22 rfl rfl
    ·exact rm
    ·rfl
    first | refine op_y (y_gt rfl rfl (decide_eq_true (by omega))) rfl ?_ | refine op_y (y_gt rfl rfl (decide_eq_false (by omega))) rfl ?_ | refine op_y (y_gt rfl rfl rfl) rfl ?_
    refine op_y (y_move rfl) rfl ?_
    first
     | refine op_s1 rfl rfl ⟨rfl, rfl⟩ ?_
     | refine op_s2 rfl rfl ⟨rfl, rfl⟩ ?_
     | (refine op_g rfl rfl ?_
        refine op_y (y_move rfl) rfl ?_)
    first
     | refine op_s1 rfl rfl ⟨rfl, rfl⟩ ?_
     | refine op_s2 rfl rfl ⟨rfl, rfl⟩ ?_
     | (refine op_g rfl rfl ?_
        first | refine op_y (y_fld Gate.fo_305_1 rfl) rfl ?_ | refine op_y (y_flda Gate.fo_305_1 rfl) rfl ?_)
    first
     | refine op_s1 rfl rfl ⟨rfl, rfl⟩ ?_
     | refine op_s2 rfl rfl ⟨rfl, rfl⟩ ?_
     | (refine op_g rfl rfl ?_
        apply op_ld Gate.sc_22 rfl rfl
        ·exact rm
        ·rfl)
    first
     | refine op_s1 rfl rfl ⟨rfl, rfl⟩ ?_
     | refine op_s2 rfl rfl ⟨rfl, rfl⟩ ?_
     | (refine op_g rfl rfl ?_
        first | refine op_y (y_fld0 Gate.fo_305_0 rfl) rfl ?_ | refine op_y (y_flda Gate.fo_305_0 rfl) rfl ?_)
    first
     | refine op_s1 rfl rfl ⟨rfl, rfl⟩ ?_
     | refine op_s2 rfl rfl ⟨rfl, rfl⟩ ?_
     | (refine op_g rfl rfl ?_
        first | refine op_y (y_fld Gate.fo_303_1 rfl) rfl ?_ | refine op_y (y_flda Gate.fo_303_1 rfl) rfl ?_)
    first
     | refine op_s1 rfl rfl ⟨rfl, rfl⟩ ?_
     | refine op_s2 rfl rfl ⟨rfl, rfl⟩ ?_
     | (refine op_g rfl rfl ?_
        apply op_ld Gate.sc_22 rfl rfl
        ·exact rm
        ·rfl)
    first
     | refine op_s1 rfl rfl ⟨rfl, rfl⟩ ?_
     | refine op_s2 rfl rfl ⟨rfl, rfl⟩ ?_
     | (refine op_g rfl rfl ?_
        first | refine op_y (y_sub rfl rfl (wu64 (by omega) (by omega))) rfl ?_ | refine op_y (y_sub rfl rfl rfl) rfl ?_)
    first
     | refine op_s1 rfl rfl ⟨rfl, rfl⟩ ?_
     | refine op_s2 rfl rfl ⟨rfl, rfl⟩ ?_
     | (refine op_g rfl rfl ?_
        first | refine op_y (y_gt rfl rfl (decide_eq_true (by omega))) rfl ?_ | refine op_y (y_gt rfl rfl (decide_eq_false (by omega))) rfl ?_ | refine op_y (y_gt rfl rfl rfl) rfl ?_)
    first | refine op_y (y_pickt rfl rfl) rfl ?_ | refine op_y (y_pickf rfl rfl) rfl ?_ | refine op_y (y_pick rfl rfl rfl) rfl ?_
    refine op_y (y_assign rfl) rfl ?_
    refine op_nil ?_
    refine ent_then ?_
    refine cd_iff rfl ?_
    refine cd_skip ?_
    refine ent_block ?_
    refine ent_then ?_
    refine cd_seq ?_
    refine cd_region [0] ?_
    refine op_y (y_assign rfl) rfl ?_
    refine op_nil ?_
    refine ent_then ?_
    refine cd_ret ?_
    refine ent_ret1 rfl rfl ⟨_, ⟨rfl, rfl⟩, fun w h => gateI_shut p b ?_⟩
    apply Sat.only (h := h)
    exact sx
theorem gMay_ct (c : Cx) (g rk bk pk by_ n : Nat) (hp : pk ≤ 9) (hb : by_ ≤ 5000) (hn : n < 18446744073709551616) : Ct Tryz.prog 204 #[.pointer (some ⟨g, 0, none⟩), .int .u32 1, .int .u64 n] c [gateI g rk bk pk by_]
 fun v L => v = .int .i64 (mayE pk by_ n : Nat) ∧ L = [gateI g rk bk pk by_] := by
 refine ct_fn (args := [.pointer (some ⟨g, 0, none⟩), .int .u32 1, .int .u64 n]) [(0, .pointer (some ⟨g, 0, none⟩)), (1, .int .u32 1), (2, .int .u64 n)] Tryz.func204 rfl Tryz.ntmps204 rfl ⟨rfl, rfl, rfl, trivial⟩ ?_
 refine cd_seq ?_
 refine cd_region [0] ?_
 refine op_y (y_assign rfl) rfl ?_
 refine op_nil ?_
 refine ent_then ?_
 refine cd_seq ?_
 refine cd_seq ?_
 refine cd_region [0, 0, 0, 2, 0] ?_
 refine op_y (y_move rfl) rfl ?_
 refine op_y (y_move rfl) rfl ?_
 refine op_y (y_move rfl) rfl ?_
 apply op_c Gate.ca_235 rfl rfl (fun e he_ => gFits_ct e g rk bk pk by_ n hp hb hn)
 ·exact sx
 rintro _ _ ⟨rfl, rfl⟩ G_ hG_
 simp only [zn] at hG_; subst hG_
 by_cases h1 : fitE pk by_ n = 0
 ·skip
  rw [h1]
  refine op_openR (A := gateI g rk bk pk by_) (by exact rm) gateI_open ?_
  rintro ⟨p, b⟩ -
  refine op_y (y_assign rfl) rfl ?_
  refine op_nil ?_
  refine ent_then ?_
  refine cd_seq ?_
  refine cd_region [0, 0] ?_
  refine op_y (y_move rfl) rfl ?_
  first | refine op_y (y_ne rfl rfl (neT (by omega))) rfl ?_ | refine op_y (y_ne rfl rfl (neF (by omega))) rfl ?_ | refine op_y (y_ne rfl rfl rfl) rfl ?_
  refine op_nil ?_
  refine ent_then ?_
  refine cd_iff rfl ?_
  refine cd_skip ?_
  refine ent_then ?_
  refine cd_seq ?_
  refine cd_region [0, 0, 0, 1, 0, 2, 0, 0, 0, 2, 2, 0] ?_
  refine op_y (y_move rfl) rfl ?_
  first | refine op_y (y_nil rfl) rfl ?_ | refine op_y (y_nili rfl) rfl ?_ | refine op_y (y_nilf rfl) rfl ?_
  first | refine op_y (y_fld Gate.fo_308_2 rfl) rfl ?_ | refine op_y (y_flda Gate.fo_308_2 rfl) rfl ?_
  apply op_ld Gate.sc_299 rfl rfl
  ·exact rm
  ·rfl
  refine op_y (y_move rfl) rfl ?_
  apply op_c Gate.ca_209 rfl rfl (fun e he_ => tGet_ct e p b 2 64 1 (slots pk by_) ⟨1, true, ⟨pk, by_, 5000⟩⟩ (by decide) rfl 3 home1 rfl rfl rfl)
  ·exact sx
  rintro _ _ ⟨rfl, rfl⟩ G_ hG_
  simp only [zn] at hG_; subst hG_
  refine op_y (y_move rfl) rfl ?_
  refine op_y (y_ext rfl rfl) rfl ?_
  refine op_y (y_ext rfl rfl) rfl ?_
  refine op_alloc Gate.ze_305 rfl fun b8 => ?_
  apply op_sta Gate.sz_305 rfl rfl rfl rfl
  ·exact rm
  ·simp
  ·(first | ((try simp only [zz, splice, Nat.reduceAdd, Nat.zero_mul, Own.cs, Slot.cs, gcs]) <;> rfl) | rfl)
  refine op_y (y_assign rfl) rfl ?_
  refine op_nil ?_
  refine ent_then ?_
  refine cd_seq ?_
  refine cd_seq ?_
  refine cd_drawL [0, 1, 2, 3, 4, 5, 6, 7, 8, 9, 10, 11, 12, 13, 14, 15, 16, 17, 18, 19, 20] [0, 0, 3, 0, 0, 0, 0, 1, 0, 0, 0, 0, 1, 0, 0, 0, 0, 0, 1, 4, 0] mixed_ (by kernel_rfl) ?_
  first | refine op_y (y_fld0 Gate.fo_305_0 rfl) rfl ?_ | refine op_y (y_flda Gate.fo_305_0 rfl) rfl ?_
  first | refine op_y (y_fld Gate.fo_303_1 rfl) rfl ?_ | refine op_y (y_flda Gate.fo_303_1 rfl) rfl ?_
  apply op_lds Gate.sc_22 rfl rfl
  ·exact rm
  ·rfl
  ·(first | exact fun w h => h | exact fun w h => h.drop | (intro w h; apply Sat.only (h := h); exact sx))
  refine op_y (y_move rfl) rfl ?_
  first | refine op_y (y_nil rfl) rfl ?_ | refine op_y (y_nili rfl) rfl ?_ | refine op_y (y_nilf rfl) rfl ?_
  first | refine op_y (y_fld0 Gate.fo_308_0 rfl) rfl ?_ | refine op_y (y_flda Gate.fo_308_0 rfl) rfl ?_
  first | refine op_y (y_fld Gate.fo_25_5 rfl) rfl ?_ | refine op_y (y_flda Gate.fo_25_5 rfl) rfl ?_
  apply op_ld Gate.sc_22 rfl rfl
  ·exact rm
  ·rfl
  refine op_y (y_move rfl) rfl ?_
  first | refine op_y (y_nil rfl) rfl ?_ | refine op_y (y_nili rfl) rfl ?_ | refine op_y (y_nilf rfl) rfl ?_
  first | refine op_y (y_fld Gate.fo_308_1 rfl) rfl ?_ | refine op_y (y_flda Gate.fo_308_1 rfl) rfl ?_
  first | refine op_y (y_fld Gate.fo_303_1 rfl) rfl ?_ | refine op_y (y_flda Gate.fo_303_1 rfl) rfl ?_
  apply op_ld Gate.sc_22 rfl rfl
  ·exact rm
  ·rfl
  refine op_y (y_subr (a := 5000) (b := by_) (5000 - by_) rfl rfl rfl rfl rfl (by omega) (by decide)) rfl ?_
  refine op_y (y_move rfl) rfl ?_
  first | refine op_y (y_nil rfl) rfl ?_ | refine op_y (y_nili rfl) rfl ?_ | refine op_y (y_nilf rfl) rfl ?_
  first | refine op_y (y_fld0 Gate.fo_308_0 rfl) rfl ?_ | refine op_y (y_flda Gate.fo_308_0 rfl) rfl ?_
  first | refine op_y (y_fld Gate.fo_25_6 rfl) rfl ?_ | refine op_y (y_flda Gate.fo_25_6 rfl) rfl ?_
  apply op_ld Gate.sc_3 rfl rfl
  ·exact rm
  ·rfl
  apply op_c4 Gate.ca_236 rfl rfl (fun e he_ => shift_ct e (5000 - by_))
  ·exact sx
  rintro _ _ ⟨rfl, rfl⟩ G_ hG_
  simp only [zn] at hG_; subst hG_
  refine ⟨by (first | exact fun w h => h | exact fun w h => h.drop | (intro w h; apply Sat.only (h := h); exact sx)), ?_⟩
  by_cases h2 : 5000 - by_ ≤ by_
  ·skip
   have hE : mayE pk by_ n = 17 := by simp [mayE, h1, h2]
   rw [hE]
   first | refine op_y (y_ge rfl rfl (decide_eq_true (by omega))) rfl ?_ | refine op_y (y_ge rfl rfl (decide_eq_false (by omega))) rfl ?_ | refine op_y (y_ge rfl rfl rfl) rfl ?_
   refine op_nil ?_
   refine ent_then ?_
   refine cd_ift rfl ?_
   refine cd_seq ?_
   refine cd_region [0] ?_
   refine op_y (y_assign rfl) rfl ?_
   refine op_nil ?_
   refine ent_then ?_
   refine cd_ret ?_
   refine ent_thn_ret ?_
   refine ent_ret1 rfl rfl ⟨_, ⟨rfl, rfl⟩, fun w h => gateI_shut p b ?_⟩
   apply Sat.only (h := h)
   exact sx
  ·skip
   have hE : mayE pk by_ n = 0 := by simp [mayE, h1, h2]
   rw [hE]
   first | refine op_y (y_ge rfl rfl (decide_eq_true (by omega))) rfl ?_ | refine op_y (y_ge rfl rfl (decide_eq_false (by omega))) rfl ?_ | refine op_y (y_ge rfl rfl rfl) rfl ?_
   refine op_nil ?_
   refine ent_then ?_
   refine cd_iff rfl ?_
   refine cd_skip ?_
   refine ent_then ?_
   refine cd_seq ?_
   refine cd_region [0] ?_
   refine op_y (y_assign rfl) rfl ?_
   refine op_nil ?_
   refine ent_then ?_
   refine cd_ret ?_
   refine ent_ret1 rfl rfl ⟨_, ⟨rfl, rfl⟩, fun w h => gateI_shut p b ?_⟩
   apply Sat.only (h := h)
   exact sx
 ·skip
  have hE : mayE pk by_ n = fitE pk by_ n := by simp [mayE, h1]
  rw [hE]
  refine op_y (y_assign rfl) rfl ?_
  refine op_nil ?_
  refine ent_then ?_
  refine cd_seq ?_
  refine cd_region [0, 0] ?_
  refine op_y (y_move rfl) rfl ?_
  first | refine op_y (y_ne rfl rfl (neT (by omega))) rfl ?_ | refine op_y (y_ne rfl rfl (neF (by omega))) rfl ?_ | refine op_y (y_ne rfl rfl rfl) rfl ?_
  refine op_nil ?_
  refine ent_then ?_
  refine cd_ift rfl ?_
  refine cd_seq ?_
  refine cd_region [0, 0] ?_
  refine op_y (y_move rfl) rfl ?_
  refine op_y (y_assign rfl) rfl ?_
  refine op_nil ?_
  refine ent_then ?_
  refine cd_ret ?_
  refine ent_thn_ret ?_
  refine ent_ret1 rfl rfl ⟨_, ⟨rfl, rfl⟩, fun w h => ?_⟩
  apply Sat.only (h := h)
  exact sx
theorem gin_ct (c : Cx) (g rk bk pk by_ n : Nat) (hp : pk ≤ 9) (hb : by_ ≤ 5000) (hn : n ≤ 5000) : Ct Tryz.prog 205 #[.pointer (some ⟨g, 0, none⟩), .int .u32 1, .int .u64 n] c [gateI g rk bk pk by_]
 fun v L => v = .tuple #[] ∧ L = [gateI g rk bk (pk + 1) (by_ + n)] := by
 refine ct_fn (args := [.pointer (some ⟨g, 0, none⟩), .int .u32 1, .int .u64 n]) [(0, .pointer (some ⟨g, 0, none⟩)), (1, .int .u32 1), (2, .int .u64 n)] Tryz.func205 rfl Tryz.ntmps205 rfl ⟨rfl, rfl, rfl, trivial⟩ ?_
 refine cd_open gateI_open ?_
 rintro ⟨p, b⟩ -
 refine cd_seq ?_
 refine cd_region [0, 0, 0, 1, 0, 2, 0, 0, 0, 2, 2, 0] ?_
 refine op_y (y_move rfl) rfl ?_
 first | refine op_y (y_nil rfl) rfl ?_ | refine op_y (y_nili rfl) rfl ?_ | refine op_y (y_nilf rfl) rfl ?_
 first | refine op_y (y_fld Gate.fo_308_2 rfl) rfl ?_ | refine op_y (y_flda Gate.fo_308_2 rfl) rfl ?_
 apply op_ld Gate.sc_299 rfl rfl
 ·exact rm
 ·rfl
 refine op_y (y_move rfl) rfl ?_
 apply op_c Gate.ca_209 rfl rfl (fun e he_ => tGet_ct e p b 2 64 1 (slots pk by_) ⟨1, true, ⟨pk, by_, 5000⟩⟩ (by decide) rfl 3 home1 rfl rfl rfl)
 ·exact sx
 rintro _ _ ⟨rfl, rfl⟩ G_ hG_
 simp only [zn] at hG_; subst hG_
 refine op_y (y_move rfl) rfl ?_
 refine op_y (y_ext rfl rfl) rfl ?_
 refine op_y (y_ext rfl rfl) rfl ?_
 refine op_alloc Gate.ze_305 rfl fun b6 => ?_
 apply op_sta Gate.sz_305 rfl rfl rfl rfl
 ·exact rm
 ·simp
 ·(first | ((try simp only [zz, splice, Nat.reduceAdd, Nat.zero_mul, Own.cs, Slot.cs, gcs]) <;> rfl) | rfl)
 refine op_y (y_assign rfl) rfl ?_
 refine op_nil ?_
 refine ent_then ?_
 refine cd_seq ?_
 refine cd_region [0, 1, 0, 2, 0, 2] ?_
 first | refine op_y (y_fld0 Gate.fo_305_0 rfl) rfl ?_ | refine op_y (y_flda Gate.fo_305_0 rfl) rfl ?_
 apply op_lda Gate.ag_303 rfl rfl
 ·exact rm
 ·(first | ((try simp only [zz, splice, Nat.reduceAdd, Nat.zero_mul, Own.cs, Slot.cs, gcs]) <;> rfl) | rfl)
 ·rfl
 refine op_y (y_move rfl) rfl ?_
 apply op_c Gate.ca_237 rfl rfl (fun e he_ => plus_ct e pk by_ n (by omega) (by omega) (by omega) (by omega) (by omega))
 ·exact sx
 rintro _ _ ⟨rfl, rfl⟩ G_ hG_
 simp only [zn] at hG_; subst hG_
 first | refine op_y (y_fld0 Gate.fo_305_0 rfl) rfl ?_ | refine op_y (y_flda Gate.fo_305_0 rfl) rfl ?_
 apply op_sta Gate.sz_303 rfl rfl rfl rfl
 ·exact rm
 ·simp
 ·(first | ((try simp only [zz, splice, Nat.reduceAdd, Nat.zero_mul, Own.cs, Slot.cs, gcs]) <;> rfl) | rfl)
 refine op_nil ?_
 refine ent_then ?_
 refine cd_seq ?_
 refine cd_draw ([]) [0, 1, 2, 3, 4, 5, 6] [0, 0, 0, 1, 0, 1, 2] mixed_ (by kernel_rfl) ?_
 refine op_y (y_move rfl) rfl ?_
 first | refine op_y (y_nil rfl) rfl ?_ | refine op_y (y_nili rfl) rfl ?_ | refine op_y (y_nilf rfl) rfl ?_
 first | refine op_y (y_fld Gate.fo_308_2 rfl) rfl ?_ | refine op_y (y_flda Gate.fo_308_2 rfl) rfl ?_
 apply op_ld Gate.sc_299 rfl rfl
 ·exact rm
 ·rfl
 refine op_y (y_move rfl) rfl ?_
 apply op_lda Gate.ag_305 rfl rfl
 ·exact rm
 ·(first | ((try simp only [zz, splice, Nat.reduceAdd, Nat.zero_mul, Own.cs, Slot.cs, gcs]) <;> rfl) | rfl)
 ·rfl
 apply op_c Gate.ca_211 rfl rfl (fun e he_ => tSet_ct e p b 2 64 1 (slots pk by_) ⟨1, true, ⟨pk, by_, 5000⟩⟩ ⟨pk + 1, by_ + n, 5000⟩ (by decide) rfl 3 home1 rfl rfl rfl)
 ·exact sx
 rintro _ _ ⟨rfl, rfl⟩ G_ hG_
 simp only [zn] at hG_; subst hG_
 rw [show (slots pk by_).set 3 { (⟨1, true, ⟨pk, by_, 5000⟩⟩ : Slot) with x := ⟨pk + 1, by_ + n, 5000⟩ } = slots (pk + 1) (by_ + n) from rfl]
 refine op_nil ?_
 refine ent_then ?_
 refine cd_region [0, 0, 0, 0, 1, 0, 2, 0, 0, 2] ?_
 refine op_y (y_move rfl) rfl ?_
 refine op_y (y_move rfl) rfl ?_
 first | refine op_y (y_nil rfl) rfl ?_ | refine op_y (y_nili rfl) rfl ?_ | refine op_y (y_nilf rfl) rfl ?_
 first | refine op_y (y_fld Gate.fo_308_1 rfl) rfl ?_ | refine op_y (y_flda Gate.fo_308_1 rfl) rfl ?_
 apply op_lda Gate.ag_303 rfl rfl
 ·exact rm
 ·(first | ((try simp only [zz, splice, Nat.reduceAdd, Nat.zero_mul, Own.cs, Slot.cs, gcs]) <;> rfl) | rfl)
 ·rfl
 refine op_y (y_move rfl) rfl ?_
 apply op_c Gate.ca_237 rfl rfl (fun e he_ => plus_ct e pk by_ n (by omega) (by omega) (by omega) (by omega) (by omega))
 ·exact sx
 rintro _ _ ⟨rfl, rfl⟩ G_ hG_
 simp only [zn] at hG_; subst hG_
 first | refine op_y (y_nil rfl) rfl ?_ | refine op_y (y_nili rfl) rfl ?_ | refine op_y (y_nilf rfl) rfl ?_
 first | refine op_y (y_fld Gate.fo_308_1 rfl) rfl ?_ | refine op_y (y_flda Gate.fo_308_1 rfl) rfl ?_
 apply op_sta Gate.sz_303 rfl rfl rfl rfl
 ·exact rm
 ·simp
 ·(first | ((try simp only [zz, splice, Nat.reduceAdd, Nat.zero_mul, Own.cs, Slot.cs, gcs]) <;> rfl) | rfl)
 refine op_nil ?_
 refine ent_end0 (.inl rfl) rfl ⟨_, ⟨rfl, rfl⟩, fun w h => gateI_shut p b ?_⟩
 rw [show ((pk + 1 : Nat) : Int) = (pk : Int) + 1 from rfl, show ((by_ + n : Nat) : Int) = (by_ : Int) + n from rfl]
 apply Sat.only (h := h)
 exact sx
theorem gIn_ct (c : Cx) (g rk bk pk by_ n : Nat) (hp : pk ≤ 9) (hb : by_ ≤ 5000) (hn : n < 18446744073709551616) : Ct Tryz.prog 165 #[.pointer (some ⟨g, 0, none⟩), .int .u32 1, .int .u64 n] c [gateI g rk bk pk by_]
 fun v L => v = .int .i64 (mayE pk by_ n : Nat) ∧ L = [if mayE pk by_ n = 0 then gateI g rk bk (pk + 1) (by_ + n) else gateI g rk bk pk by_] := by
 refine ct_fn (args := [.pointer (some ⟨g, 0, none⟩), .int .u32 1, .int .u64 n]) [(0, .pointer (some ⟨g, 0, none⟩)), (1, .int .u32 1), (2, .int .u64 n)] Tryz.func165 rfl Tryz.ntmps165 rfl ⟨rfl, rfl, rfl, trivial⟩ ?_
 refine cd_seq ?_
 refine cd_region [0] ?_
 refine op_y (y_assign rfl) rfl ?_
 refine op_nil ?_
 refine ent_then ?_
 refine cd_seq ?_
 refine cd_region [0, 0, 0, 2, 0] ?_
 refine op_y (y_move rfl) rfl ?_
 refine op_y (y_move rfl) rfl ?_
 refine op_y (y_move rfl) rfl ?_
 apply op_c Gate.ca_204 rfl rfl (fun e he_ => gMay_ct e g rk bk pk by_ n hp hb hn)
 ·exact sx
 rintro _ _ ⟨rfl, rfl⟩ G_ hG_
 simp only [zn] at hG_; subst hG_
 by_cases h1 : mayE pk by_ n = 0
 ·skip
  have hn2 : n ≤ 5000 := by
   unfold mayE at h1
   split at h1
   ·contradiction
   ·rename_i h2
    have h3 : fitE pk by_ n = 0 := by simpa using h2
    unfold fitE at h3
    split at h3
    ·cases h3
    ·omega
  rw [if_pos h1, h1]
  refine op_y (y_assign rfl) rfl ?_
  refine op_nil ?_
  refine ent_then ?_
  refine cd_seq ?_
  refine cd_seq ?_
  refine cd_region [0, 0] ?_
  refine op_y (y_move rfl) rfl ?_
  first | refine op_y (y_eq rfl rfl (eqT (by omega))) rfl ?_ | refine op_y (y_eq rfl rfl (eqF (by omega))) rfl ?_ | refine op_y (y_eq rfl rfl rfl) rfl ?_
  refine op_nil ?_
  refine ent_then ?_
  refine cd_ift rfl ?_
  refine cd_region [0, 0, 0, 2] ?_
  refine op_y (y_move rfl) rfl ?_
  refine op_y (y_move rfl) rfl ?_
  refine op_y (y_move rfl) rfl ?_
  apply op_c Gate.ca_205 rfl rfl (fun e he_ => gin_ct e g rk bk pk by_ n hp hb hn2)
  ·exact sx
  rintro _ _ ⟨rfl, rfl⟩ G_ hG_
  simp only [zn] at hG_; subst hG_
  refine op_nil ?_
  refine ent_then ?_
  refine cd_seq ?_
  refine cd_region [0, 0] ?_
  refine op_y (y_move rfl) rfl ?_
  refine op_y (y_assign rfl) rfl ?_
  refine op_nil ?_
  refine ent_then ?_
  refine cd_ret ?_
  refine ent_ret1 rfl rfl ⟨_, ⟨rfl, rfl⟩, fun w h => ?_⟩
  apply Sat.only (h := h)
  exact sx
 ·skip
  rw [if_neg h1]
  refine op_y (y_assign rfl) rfl ?_
  refine op_nil ?_
  refine ent_then ?_
  refine cd_seq ?_
  refine cd_seq ?_
  refine cd_region [0, 0] ?_
  refine op_y (y_move rfl) rfl ?_
  first | refine op_y (y_eq rfl rfl (eqT (by omega))) rfl ?_ | refine op_y (y_eq rfl rfl (eqF (by omega))) rfl ?_ | refine op_y (y_eq rfl rfl rfl) rfl ?_
  refine op_nil ?_
  refine ent_then ?_
  refine cd_iff rfl ?_
  refine cd_skip ?_
  refine ent_then ?_
  refine cd_seq ?_
  refine cd_region [0, 0] ?_
  refine op_y (y_move rfl) rfl ?_
  refine op_y (y_assign rfl) rfl ?_
  refine op_nil ?_
  refine ent_then ?_
  refine cd_ret ?_
  refine ent_ret1 rfl rfl ⟨_, ⟨rfl, rfl⟩, fun w h => ?_⟩
  apply Sat.only (h := h)
  exact sx
theorem gOut_ct (c : Cx) (g rk bk pk by_ n : Nat) (hp : pk ≤ 9) (hp1 : 1 ≤ pk) (hb : by_ ≤ 5000) (hn : n ≤ by_) : Ct Tryz.prog 168 #[.pointer (some ⟨g, 0, none⟩), .int .u32 1, .int .u64 n] c [gateI g rk bk pk by_]
 fun v L => v = .int .i64 0 ∧ L = [gateI g rk bk (pk - 1) (by_ - n)] := by
 refine ct_fn (args := [.pointer (some ⟨g, 0, none⟩), .int .u32 1, .int .u64 n]) [(0, .pointer (some ⟨g, 0, none⟩)), (1, .int .u32 1), (2, .int .u64 n)] Tryz.func168 rfl Tryz.ntmps168 rfl ⟨rfl, rfl, rfl, trivial⟩ ?_
 obtain ⟨pk', hpk⟩ : ∃ q, q = pk - 1 := ⟨_, rfl⟩
 obtain ⟨by', hby⟩ : ∃ q, q = by_ - n := ⟨_, rfl⟩
 have e1 : (pk' : Int) = (pk : Int) - 1 := by omega
 have e2 : (by' : Int) = (by_ : Int) - n := by omega
 rw [← hpk, ← hby]
 refine cd_open gateI_open ?_
 rintro ⟨p, b⟩ -
 refine cd_seq ?_
 refine cd_region [0] ?_
 refine op_y (y_assign rfl) rfl ?_
 refine op_nil ?_
 refine ent_then ?_
 refine cd_seq ?_
 refine cd_seq ?_
 refine cd_region [0, 0] ?_
 refine op_y (y_move rfl) rfl ?_
 first | refine op_y (y_peq (r := false) Gate.un_208 rfl rfl) rfl ?_ | refine op_y (y_peq (r := true) Gate.un_208 rfl rfl) rfl ?_ | refine op_y (y_peq Gate.un_208 rfl rfl) rfl ?_
 refine op_nil ?_
 refine ent_then ?_
 refine cd_iff rfl ?_
 refine cd_skip ?_
 refine ent_then ?_
 refine cd_seq ?_
 refine cd_region [0, 0, 0, 1, 0, 2, 0, 0, 0, 2, 2, 0] ?_
 refine op_y (y_move rfl) rfl ?_
 first | refine op_y (y_nil rfl) rfl ?_ | refine op_y (y_nili rfl) rfl ?_ | refine op_y (y_nilf rfl) rfl ?_
 first | refine op_y (y_fld Gate.fo_308_2 rfl) rfl ?_ | refine op_y (y_flda Gate.fo_308_2 rfl) rfl ?_
 apply op_ld Gate.sc_299 rfl rfl
 ·exact rm
 ·rfl
 refine op_y (y_move rfl) rfl ?_
 apply op_c Gate.ca_209 rfl rfl (fun e he_ => tGet_ct e p b 2 64 1 (slots pk by_) ⟨1, true, ⟨pk, by_, 5000⟩⟩ (by decide) rfl 3 home1 rfl rfl rfl)
 ·exact sx
 rintro _ _ ⟨rfl, rfl⟩ G_ hG_
 simp only [zn] at hG_; subst hG_
 refine op_y (y_move rfl) rfl ?_
 refine op_y (y_ext rfl rfl) rfl ?_
 refine op_y (y_ext rfl rfl) rfl ?_
 refine op_alloc Gate.ze_305 rfl fun b7 => ?_
 apply op_sta Gate.sz_305 rfl rfl rfl rfl
 ·exact rm
 ·simp
 ·(first | ((try simp only [zz, splice, Nat.reduceAdd, Nat.zero_mul, Own.cs, Slot.cs, gcs]) <;> rfl) | rfl)
 refine op_y (y_assign rfl) rfl ?_
 refine op_nil ?_
 refine ent_then ?_
 refine cd_seq ?_
 refine cd_block ?_
 refine cd_seq ?_
 refine cd_region [0, 0, 0] ?_
 refine op_y (y_move rfl) rfl ?_
 first | refine op_y (y_not (b := true) (r := false) rfl rfl) rfl ?_ | refine op_y (y_not (b := false) (r := true) rfl rfl) rfl ?_ | refine op_y (y_not rfl rfl) rfl ?_
 refine op_y (y_assign rfl) rfl ?_
 refine op_nil ?_
 refine ent_then ?_
 refine cd_iff rfl ?_
 refine cd_seq ?_
 refine cd_region [0, 0, 1, 0, 0, 0, 0, 1, 0, 0, 0, 0] ?_
 first | refine op_y (y_fld0 Gate.fo_305_0 rfl) rfl ?_ | refine op_y (y_flda Gate.fo_305_0 rfl) rfl ?_
 first | refine op_y (y_fld0 Gate.fo_303_0 rfl) rfl ?_ | refine op_y (y_flda Gate.fo_303_0 rfl) rfl ?_
 apply op_ld Gate.sc_3 rfl rfl
 ·exact rm
 ·rfl
 first | refine op_y (y_eq rfl rfl (eqT (by omega))) rfl ?_ | refine op_y (y_eq rfl rfl (eqF (by omega))) rfl ?_ | refine op_y (y_eq rfl rfl rfl) rfl ?_
 refine op_y (y_move rfl) rfl ?_
 first
  | refine op_s1 rfl rfl ⟨rfl, rfl⟩ ?_
  | refine op_s2 rfl rfl ⟨rfl, rfl⟩ ?_
  | (refine op_g rfl rfl ?_
     first | refine op_y (y_fld0 Gate.fo_305_0 rfl) rfl ?_ | refine op_y (y_flda Gate.fo_305_0 rfl) rfl ?_)
 first
  | refine op_s1 rfl rfl ⟨rfl, rfl⟩ ?_
  | refine op_s2 rfl rfl ⟨rfl, rfl⟩ ?_
  | (refine op_g rfl rfl ?_
     first | refine op_y (y_fld Gate.fo_303_1 rfl) rfl ?_ | refine op_y (y_flda Gate.fo_303_1 rfl) rfl ?_)
 first
  | refine op_s1 rfl rfl ⟨rfl, rfl⟩ ?_
  | refine op_s2 rfl rfl ⟨rfl, rfl⟩ ?_
  | (refine op_g rfl rfl ?_
     apply op_ld Gate.sc_22 rfl rfl
     ·exact rm
     ·rfl)
 first
  | refine op_s1 rfl rfl ⟨rfl, rfl⟩ ?_
  | refine op_s2 rfl rfl ⟨rfl, rfl⟩ ?_
  | (refine op_g rfl rfl ?_
     refine op_y (y_move rfl) rfl ?_)
 first
  | refine op_s1 rfl rfl ⟨rfl, rfl⟩ ?_
  | refine op_s2 rfl rfl ⟨rfl, rfl⟩ ?_
  | (refine op_g rfl rfl ?_
     first | refine op_y (y_lt rfl rfl (decide_eq_true (by omega))) rfl ?_ | refine op_y (y_lt rfl rfl (decide_eq_false (by omega))) rfl ?_ | refine op_y (y_lt rfl rfl rfl) rfl ?_)
 first | refine op_y (y_pickt rfl rfl) rfl ?_ | refine op_y (y_pickf rfl rfl) rfl ?_ | refine op_y (y_pick rfl rfl rfl) rfl ?_
 refine op_y (y_assign rfl) rfl ?_
 refine op_nil ?_
 refine ent_then ?_
 refine cd_iff rfl ?_
 refine cd_skip ?_
 refine ent_block ?_
 refine ent_then ?_
 refine cd_seq ?_
 refine cd_region [0, 1, 0, 2, 0, 2] ?_
 first | refine op_y (y_fld0 Gate.fo_305_0 rfl) rfl ?_ | refine op_y (y_flda Gate.fo_305_0 rfl) rfl ?_
 apply op_lda Gate.ag_303 rfl rfl
 ·exact rm
 ·(first | ((try simp only [zz, splice, Nat.reduceAdd, Nat.zero_mul, Own.cs, Slot.cs, gcs]) <;> rfl) | rfl)
 ·rfl
 refine op_y (y_move rfl) rfl ?_
 apply op_c Gate.ca_210 rfl rfl (fun e he_ => less_ct e pk by_ n (by omega) (by omega) (by omega) (by omega) (by omega))
 ·exact sx
 rintro _ _ ⟨rfl, rfl⟩ G_ hG_
 simp only [zn] at hG_; subst hG_
 rw [← e1, ← e2]
 first | refine op_y (y_fld0 Gate.fo_305_0 rfl) rfl ?_ | refine op_y (y_flda Gate.fo_305_0 rfl) rfl ?_
 apply op_sta Gate.sz_303 rfl rfl rfl rfl
 ·exact rm
 ·simp
 ·(first | ((try simp only [zz, splice, Nat.reduceAdd, Nat.zero_mul, Own.cs, Slot.cs, gcs]) <;> rfl) | rfl)
 refine op_nil ?_
 refine ent_then ?_
 refine cd_seq ?_
 refine cd_draw ([]) [0, 1, 2, 3, 4, 5, 6] [0, 0, 0, 1, 0, 1, 2] mixed_ (by kernel_rfl) ?_
 refine op_y (y_move rfl) rfl ?_
 first | refine op_y (y_nil rfl) rfl ?_ | refine op_y (y_nili rfl) rfl ?_ | refine op_y (y_nilf rfl) rfl ?_
 first | refine op_y (y_fld Gate.fo_308_2 rfl) rfl ?_ | refine op_y (y_flda Gate.fo_308_2 rfl) rfl ?_
 apply op_ld Gate.sc_299 rfl rfl
 ·exact rm
 ·rfl
 refine op_y (y_move rfl) rfl ?_
 apply op_lda Gate.ag_305 rfl rfl
 ·exact rm
 ·(first | ((try simp only [zz, splice, Nat.reduceAdd, Nat.zero_mul, Own.cs, Slot.cs, gcs]) <;> rfl) | rfl)
 ·rfl
 apply op_c Gate.ca_211 rfl rfl (fun e he_ => tSet_ct e p b 2 64 1 (slots pk by_) ⟨1, true, ⟨pk, by_, 5000⟩⟩ ⟨pk', by', 5000⟩ (by decide) rfl 3 home1 rfl rfl rfl)
 ·exact sx
 rintro _ _ ⟨rfl, rfl⟩ G_ hG_
 simp only [zn] at hG_; subst hG_
 rw [show (slots pk by_).set 3 { (⟨1, true, ⟨pk, by_, 5000⟩⟩ : Slot) with x := ⟨pk', by', 5000⟩ } = slots pk' by' from rfl]
 refine op_nil ?_
 refine ent_then ?_
 refine cd_seq ?_
 refine cd_region [0, 0, 0, 0, 1, 0, 2, 0, 0, 2] ?_
 refine op_y (y_move rfl) rfl ?_
 refine op_y (y_move rfl) rfl ?_
 first | refine op_y (y_nil rfl) rfl ?_ | refine op_y (y_nili rfl) rfl ?_ | refine op_y (y_nilf rfl) rfl ?_
 first | refine op_y (y_fld Gate.fo_308_1 rfl) rfl ?_ | refine op_y (y_flda Gate.fo_308_1 rfl) rfl ?_
 apply op_lda Gate.ag_303 rfl rfl
 ·exact rm
 ·(first | ((try simp only [zz, splice, Nat.reduceAdd, Nat.zero_mul, Own.cs, Slot.cs, gcs]) <;> rfl) | rfl)
 ·rfl
 refine op_y (y_move rfl) rfl ?_
 apply op_c Gate.ca_210 rfl rfl (fun e he_ => less_ct e pk by_ n (by omega) (by omega) (by omega) (by omega) (by omega))
 ·exact sx
 rintro _ _ ⟨rfl, rfl⟩ G_ hG_
 simp only [zn] at hG_; subst hG_
 rw [← e1, ← e2]
 first | refine op_y (y_nil rfl) rfl ?_ | refine op_y (y_nili rfl) rfl ?_ | refine op_y (y_nilf rfl) rfl ?_
 first | refine op_y (y_fld Gate.fo_308_1 rfl) rfl ?_ | refine op_y (y_flda Gate.fo_308_1 rfl) rfl ?_
 apply op_sta Gate.sz_303 rfl rfl rfl rfl
 ·exact rm
 ·simp
 ·(first | ((try simp only [zz, splice, Nat.reduceAdd, Nat.zero_mul, Own.cs, Slot.cs, gcs]) <;> rfl) | rfl)
 refine op_nil ?_
 refine ent_then ?_
 refine cd_seq ?_
 refine cd_region [0] ?_
 refine op_y (y_assign rfl) rfl ?_
 refine op_nil ?_
 refine ent_then ?_
 refine cd_ret ?_
 refine ent_ret1 rfl rfl ⟨_, ⟨rfl, rfl⟩, fun w h => gateI_shut p b ?_⟩
 apply Sat.only (h := h)
 exact sx
end Go.Proofs.YtfkadaodnaaceaaGreatDoor
/- The ranks of two flows, of which one is asked for. -/
namespace Go.Proofs.YtfkadaodnaaceaaGreatDoor
open Go Go.SL
theorem Rank.ag_197 : aggK Tryz.prog 197 = some 5 := by kernel_rfl
theorem Rank.ca_109 : callable Tryz.prog 109 = true := by kernel_rfl
theorem Rank.ca_171 : callable Tryz.prog 171 = true := by kernel_rfl
theorem Rank.ca_206 : callable Tryz.prog 206 = true := by kernel_rfl
theorem Rank.ca_207 : callable Tryz.prog 207 = true := by kernel_rfl
theorem Rank.fo_197_0 : fieldOff Tryz.prog 197 0 = some 0 := by kernel_rfl
theorem Rank.fo_197_1 : fieldOff Tryz.prog 197 1 = some 1 := by kernel_rfl
theorem Rank.fo_197_2 : fieldOff Tryz.prog 197 2 = some 2 := by kernel_rfl
theorem Rank.fo_312_0 : fieldOff Tryz.prog 312 0 = some 0 := by kernel_rfl
theorem Rank.fo_312_1 : fieldOff Tryz.prog 312 1 = some 1 := by kernel_rfl
theorem Rank.fo_312_2 : fieldOff Tryz.prog 312 2 = some 2 := by kernel_rfl
theorem Rank.fo_312_3 : fieldOff Tryz.prog 312 3 = some 3 := by kernel_rfl
theorem Rank.sc_3 : scalarT Tryz.prog 3 = true := by kernel_rfl
theorem Rank.sc_22 : scalarT Tryz.prog 22 = true := by kernel_rfl
theorem Rank.sc_23 : scalarT Tryz.prog 23 = true := by kernel_rfl
theorem Rank.sc_42 : scalarT Tryz.prog 42 = true := by kernel_rfl
theorem Rank.sc_264 : scalarT Tryz.prog 264 = true := by kernel_rfl
theorem Rank.sl_23 : sliceK Tryz.prog 23 = some (197, 5, 40) := by kernel_rfl
theorem Rank.sl_264 : sliceK Tryz.prog 264 = some (22, 1, 8) := by kernel_rfl
theorem Rank.sz_22 : sizeK Tryz.prog 22 = some 1 := by kernel_rfl
theorem Rank.un_23 : Tryz.prog.underlying 23 = some (.slice 197) := by kernel_rfl
theorem Rank.un_209 : Tryz.prog.underlying 209 = some (.pointer 312) := by kernel_rfl
set_option maxRecDepth 100000
set_option maxHeartbeats 400000
structure Fl where
 id : Nat
 cost : Nat
 budget : Nat
 size : Nat
 cap : Nat
 deriving DecidableEq, Inhabited
abbrev Fl.cs (f : Fl) : List Value := [.int .u32 f.id, .int .u64 f.cost, .int .u64 f.budget, .int .u64 f.size, .int .u64 f.cap]
theorem Fl.cs5 (f : Fl) : (Fl.cs f).length = 5 := rfl
def fl1 : Fl := ⟨1, 1, 10, 0, 5000⟩
def fl2 : Fl := ⟨2, 1, 20, 0, 50⟩
theorem rFn_ct (c : Cx) (bi : Nat) (id : Int) (f : Fl) : Ct Tryz.prog 207 #[.agg (Fl.cs f).toArray, .pointer (some ⟨bi, 0, none⟩)] c [pt bi 42 [.int .u32 id]] fun v L => v = .bool (((f.id : Nat) : Int) == id) ∧ L = [pt bi 42 [.int .u32 id]] := by
 refine ct_fn (args := [.agg (Fl.cs f).toArray, .pointer (some ⟨bi, 0, none⟩)]) [(0, .agg (Fl.cs f).toArray), (1, .pointer (some ⟨bi, 0, none⟩))] Tryz.func207 rfl Tryz.ntmps207 rfl ⟨rfl, rfl, trivial⟩ ?_
 refine cd_seq ?_
 refine cd_region [2, 0] ?_
 refine op_boxa rfl rfl fun b2 => ?_
 refine op_y (y_assign rfl) rfl ?_
 refine op_nil ?_
 refine ent_then ?_
 refine cd_seq ?_
 refine cd_region [0, 1, 1, 0, 0] ?_
 first | refine op_y (y_fld0 Rank.fo_197_0 rfl) rfl ?_ | refine op_y (y_flda Rank.fo_197_0 rfl) rfl ?_
 apply op_ld Rank.sc_42 rfl rfl
 ·exact rm
 ·rfl
 apply op_ld Rank.sc_42 rfl rfl
 ·exact rm
 ·rfl
 refine op_y (y_eq (r := (((f.id : Nat) : Int) == id)) rfl rfl rfl) rfl ?_
 refine op_y (y_assign rfl) rfl ?_
 refine op_nil ?_
 refine ent_then ?_
 refine cd_ret ?_
 refine ent_ret1 rfl rfl ⟨_, ⟨rfl, rfl⟩, fun w h => h.drop⟩
theorem rIndex_ct (c : Cx) (b bi m cap : Nat) (fs : List Fl) (r : List Value) (f : Fl) (id : Int) (hid : ((f.id : Nat) : Int) = id) (hf : fs[0]? = some f) (hm : 0 < m) :
 Ct Tryz.prog 206 #[.slice (some ⟨b, 0, none⟩) m cap, .func (.func 207) #[] #[.pointer (some ⟨bi, 0, none⟩)]] c [pt b 197 (flat Fl.cs fs ++ r), pt bi 42 [.int .u32 id]]
  fun v L => v = .int .i64 0 ∧ L = [pt b 197 (flat Fl.cs fs ++ r), pt bi 42 [.int .u32 id]] := by
 refine ct_fn (args := [.slice (some ⟨b, 0, none⟩) m cap, .func (.func 207) #[] #[.pointer (some ⟨bi, 0, none⟩)]]) [(0, .slice (some ⟨b, 0, none⟩) m cap), (1, .func (.func 207) #[] #[.pointer (some ⟨bi, 0, none⟩)])] Tryz.func206 rfl Tryz.ntmps206 rfl ⟨rfl, rfl, trivial⟩ ?_
 have he : (((f.id : Nat) : Int) == id) = true := by simpa using hid
 refine cd_seq ?_
 refine cd_region [0] ?_
 refine op_y (y_assign rfl) rfl ?_
 refine op_nil ?_
 refine ent_then ?_
 refine cd_seq ?_
 refine cd_seq ?_
 refine cd_region [0, 0, 0] ?_
 refine op_y (y_move rfl) rfl ?_
 refine op_y (y_len Rank.un_23 rfl) rfl ?_
 refine op_y (y_move rfl) rfl ?_
 refine op_nil ?_
 refine ent_then ?_
 refine cd_block ?_
 refine cd_rounds 0 ?_
 refine cd_seq ?_
 refine cd_region [0] ?_
 first | refine op_y (y_lt rfl rfl (decide_eq_true (by omega))) rfl ?_ | refine op_y (y_lt rfl rfl (decide_eq_false (by omega))) rfl ?_ | refine op_y (y_lt rfl rfl rfl) rfl ?_
 refine op_nil ?_
 refine ent_then ?_
 refine cd_seq ?_
 refine cd_ift rfl ?_
 refine cd_skip ?_
 refine ent_then ?_
 refine cd_seq ?_
 refine cd_block ?_
 refine cd_seq ?_
 refine cd_region [0, 0] ?_
 refine op_y (y_move rfl) rfl ?_
 refine op_y (y_assign rfl) rfl ?_
 refine op_nil ?_
 refine ent_then ?_
 refine cd_seq ?_
 refine cd_region [0, 0, 0, 0, 1, 2] ?_
 refine op_y (y_move rfl) rfl ?_
 refine op_y (y_move rfl) rfl ?_
 refine op_y (y_move rfl) rfl ?_
 first | refine op_y (y_ix0 (j := 0) Rank.sl_23 rfl rfl (by omega) (by omega)) rfl ?_ | refine op_y (y_ix (j := 0) Rank.sl_23 rfl rfl (by omega) (by omega)) rfl ?_ | refine op_y (y_ixa (j := 0) Rank.sl_23 rfl rfl (by omega) (by omega)) rfl ?_
 apply op_lda Rank.ag_197 rfl rfl
 ·exact rm
 ·exact flat_take Fl.cs5 r hf
 ·first | rfl | simp [*]
 apply op_cv (f := 207) (vs := [_]) (cap := [_]) Rank.ca_207 rfl rfl rfl rfl (fun e he_ => rFn_ct e bi id f)
 ·exact sx
 rintro _ _ ⟨rfl, rfl⟩ G_ hG_
 simp only [zn] at hG_; subst hG_
 rw [he]
 refine op_nil ?_
 refine ent_then ?_
 refine cd_ift rfl ?_
 refine cd_seq ?_
 refine cd_region [0, 0] ?_
 refine op_y (y_move rfl) rfl ?_
 refine op_y (y_assign rfl) rfl ?_
 refine op_nil ?_
 refine ent_then ?_
 refine cd_ret ?_
 refine ent_block_ret ?_
 refine ent_thn_ret ?_
 refine ent_then_ret ?_
 refine ent_block_ret ?_
 refine ent_thn_ret ?_
 refine ent_ret1 rfl rfl ⟨_, ⟨rfl, rfl⟩, fun w h => ?_⟩
 apply Sat.only (h := h)
 exact sx
theorem sat_own2 {X : As} {b1 b2 T1 T2 s1 s2 m1 m2 k1 k2 : Nat} {cs1 r1 cs2 r2 : List Value} {M : List As} {c : Cx} {w : World} (h11 : cs1.length = m1 * s1) (h12 : (cs1 ++ r1).length = k1 * s1) (h21 : cs2.length = m2 * s2) (h22 : (cs2 ++ r2).length = k2 * s2)
 (h : Sat (X :: pt b1 T1 (cs1 ++ r1) :: pt b2 T2 (cs2 ++ r2) :: M) c w) : Sat (X :: ownS T1 s1 (some ⟨b1, 0, none⟩) m1 k1 cs1 :: ownS T2 s2 (some ⟨b2, 0, none⟩) m2 k2 cs2 :: M) c w :=
 Sat.cons_mono (fun _ _ h => ownS_mk h11 h12 (Sat.cons_mono (fun _ _ h => ownS_mk h21 h22 h) h)) h
structure RX where
 A1 : Option Addr
 c1 : Nat
 A2 : Option Addr
 c2 : Nat
/-- Ranks at block r, of a kind: the virtual time, and the first flow's tag. -/
def rankI (r kd virt tag : Nat) : As := fun h => ∃ x : RX, sepL [pt r 312 [.int .i64 kd, .slice x.A1 2 x.c1, .slice x.A2 2 x.c2, .int .u64 virt], ownS 197 5 x.A1 2 x.c1 (flat Fl.cs [fl1, fl2]), ownS 22 1 x.A2 2 x.c2 [.int .u64 tag, .int .u64 0]] h
theorem rankI_open {r kd virt tag : Nat} {M : List As} {c : Cx} (w : World) (h : Sat (rankI r kd virt tag :: M) c w) : ∃ x : RX, True ∧ Sat (pt r 312 [.int .i64 kd, .slice x.A1 2 x.c1, .slice x.A2 2 x.c2, .int .u64 virt] :: ownS 197 5 x.A1 2 x.c1 (flat Fl.cs [fl1, fl2]) :: ownS 22 1 x.A2 2 x.c2 [.int .u64 tag, .int .u64 0] :: M) c w := by
 obtain ⟨h1, ⟨x, hs⟩, d, k⟩ := h
 exact ⟨x, trivial, Sat.sepL_iff.1 ⟨h1, hs, d, k⟩⟩
theorem rankI_shut {r kd virt tag : Nat} {M : List As} {c : Cx} {w : World} (x : RX) (h : Sat (pt r 312 [.int .i64 kd, .slice x.A1 2 x.c1, .slice x.A2 2 x.c2, .int .u64 virt] :: ownS 197 5 x.A1 2 x.c1 (flat Fl.cs [fl1, fl2]) :: ownS 22 1 x.A2 2 x.c2 [.int .u64 tag, .int .u64 0] :: M) c w) : Sat (rankI r kd virt tag :: M) c w := by
 obtain ⟨h1, hs, d, k⟩ := Sat.sepL_iff.2 (show Sat ([_, _, _] ++ M) c w from h)
 exact ⟨h1, ⟨x, hs⟩, d, k⟩
def rankOf (kd now virt tag : Nat) : Nat := if kd = 1 then max virt tag else satAdd now 10
def tagOf (kd virt tag n : Nat) : Nat := if kd = 1 then satAdd (max virt tag) (satMul 1 n) else tag
theorem rNext_ct (c : Cx) (r kd now virt tag n : Nat) (hkd : kd = 1 ∨ kd = 2) (hn : n < 18446744073709551616) (hnow : now < 18446744073709551616) (hv : virt < 18446744073709551616) (ht : tag < 18446744073709551616) :
 Ct Tryz.prog 166 #[.pointer (some ⟨r, 0, none⟩), .int .u64 now, .int .u32 1, .int .u64 n] c [rankI r kd virt tag]
  fun v L => v = .tuple #[.int .u64 (rankOf kd now virt tag : Nat), .int .i64 0] ∧ L = [rankI r kd virt (tagOf kd virt tag n)] := by
 refine ct_fn (args := [.pointer (some ⟨r, 0, none⟩), .int .u64 now, .int .u32 1, .int .u64 n]) [(0, .pointer (some ⟨r, 0, none⟩)), (1, .int .u64 now), (2, .int .u32 1), (3, .int .u64 n)] Tryz.func166 rfl Tryz.ntmps166 rfl ⟨rfl, rfl, rfl, rfl, trivial⟩ ?_
 refine cd_open rankI_open ?_
 rintro ⟨A1, c1, A2, c2⟩ -
 simp only []
 apply cd_own (A := A1)
 ·exact rm
 ·decide
 ·rfl
 rintro b1 r1 rfl h11 h12
 apply cd_own (A := A2)
 ·exact rm
 ·decide
 ·rfl
 rintro b2 r2 rfl h21 h22
 refine cd_seq ?_
 refine cd_region [2, 0, 0] ?_
 refine op_box1 rfl rfl rfl fun b6 => ?_
 refine op_y (y_assign rfl) rfl ?_
 refine op_y (y_assign rfl) rfl ?_
 refine op_nil ?_
 refine ent_then ?_
 refine cd_seq ?_
 refine cd_seq ?_
 refine cd_region [0, 0] ?_
 refine op_y (y_move rfl) rfl ?_
 first | refine op_y (y_peq (r := false) Rank.un_209 rfl rfl) rfl ?_ | refine op_y (y_peq (r := true) Rank.un_209 rfl rfl) rfl ?_ | refine op_y (y_peq Rank.un_209 rfl rfl) rfl ?_
 refine op_nil ?_
 refine ent_then ?_
 refine cd_iff rfl ?_
 refine cd_skip ?_
 refine ent_then ?_
 refine cd_seq ?_
 refine cd_region [0, 0, 0, 1, 0, 2, 0] ?_
 refine op_y (y_move rfl) rfl ?_
 first | refine op_y (y_nil rfl) rfl ?_ | refine op_y (y_nili rfl) rfl ?_ | refine op_y (y_nilf rfl) rfl ?_
 first | refine op_y (y_fld Rank.fo_312_1 rfl) rfl ?_ | refine op_y (y_flda Rank.fo_312_1 rfl) rfl ?_
 apply op_ld Rank.sc_23 rfl rfl
 ·exact rm
 ·rfl
 refine op_y (y_mkfs rfl) rfl ?_
 apply op_c Rank.ca_206 rfl rfl (fun e he_ => rIndex_ct e b1 _ 2 c1 [fl1, fl2] r1 fl1 1 rfl rfl (by decide))
 ·exact sx
 rintro _ _ ⟨rfl, rfl⟩ G_ hG_
 simp only [zn] at hG_; subst hG_
 rcases hkd with rfl | rfl
 ·skip
  have hE : rankOf 1 now virt tag = max virt tag := rfl
  have hT : tagOf 1 virt tag n = satAdd (max virt tag) (satMul 1 n) := rfl
  rw [hE, hT]
  obtain ⟨rk, hrk⟩ : ∃ q, q = max virt tag := ⟨_, rfl⟩
  rw [← hrk]
  have hrk2 : rk < 18446744073709551616 := by omega
  refine op_y (y_assign rfl) rfl ?_
  refine op_nil ?_
  refine ent_then ?_
  refine cd_seq ?_
  refine cd_seq ?_
  refine cd_region [0, 0] ?_
  refine op_y (y_move rfl) rfl ?_
  first | refine op_y (y_lt rfl rfl (decide_eq_true (by omega))) rfl ?_ | refine op_y (y_lt rfl rfl (decide_eq_false (by omega))) rfl ?_ | refine op_y (y_lt rfl rfl rfl) rfl ?_
  refine op_nil ?_
  refine ent_then ?_
  refine cd_iff rfl ?_
  refine cd_skip ?_
  refine ent_then ?_
  refine cd_seq ?_
  refine cd_region [0, 0, 0, 1, 0, 0, 1, 0] ?_
  refine op_y (y_move rfl) rfl ?_
  first | refine op_y (y_nil rfl) rfl ?_ | refine op_y (y_nili rfl) rfl ?_ | refine op_y (y_nilf rfl) rfl ?_
  first | refine op_y (y_fld Rank.fo_312_2 rfl) rfl ?_ | refine op_y (y_flda Rank.fo_312_2 rfl) rfl ?_
  apply op_ld Rank.sc_264 rfl rfl
  ·exact rm
  ·rfl
  refine op_y (y_move rfl) rfl ?_
  first | refine op_y (y_ix0 (j := 0) Rank.sl_264 rfl rfl (by omega) (by omega)) rfl ?_ | refine op_y (y_ix (j := 0) Rank.sl_264 rfl rfl (by omega) (by omega)) rfl ?_ | refine op_y (y_ixa (j := 0) Rank.sl_264 rfl rfl (by omega) (by omega)) rfl ?_
  apply op_ld Rank.sc_22 rfl rfl
  ·exact rm
  ·exact (rfl : ([Value.int .u64 tag, .int .u64 0] ++ r2)[0]? = some (.int .u64 tag))
  refine op_y (y_assign rfl) rfl ?_
  refine op_nil ?_
  refine ent_then ?_
  refine cd_seq ?_
  refine cd_seq ?_
  refine cd_region [0, 0, 0, 1] ?_
  refine op_y (y_move rfl) rfl ?_
  first | refine op_y (y_nil rfl) rfl ?_ | refine op_y (y_nili rfl) rfl ?_ | refine op_y (y_nilf rfl) rfl ?_
  first | refine op_y (y_fld0 Rank.fo_312_0 rfl) rfl ?_ | refine op_y (y_flda Rank.fo_312_0 rfl) rfl ?_
  apply op_ld Rank.sc_3 rfl rfl
  ·exact rm
  ·rfl
  refine op_nil ?_
  refine ent_then ?_
  refine cd_block ?_
  refine cd_seq ?_
  refine cd_region [0, 0] ?_
  first | refine op_y (y_eq rfl rfl (eqT (by omega))) rfl ?_ | refine op_y (y_eq rfl rfl (eqF (by omega))) rfl ?_ | refine op_y (y_eq rfl rfl rfl) rfl ?_
  refine op_y (y_assign rfl) rfl ?_
  refine op_nil ?_
  refine ent_then ?_
  refine cd_ift rfl ?_
  refine cd_seq ?_
  refine cd_region [0, 0, 0, 1, 0, 0, 0] ?_
  refine op_y (y_move rfl) rfl ?_
  first | refine op_y (y_nil rfl) rfl ?_ | refine op_y (y_nili rfl) rfl ?_ | refine op_y (y_nilf rfl) rfl ?_
  first | refine op_y (y_fld Rank.fo_312_3 rfl) rfl ?_ | refine op_y (y_flda Rank.fo_312_3 rfl) rfl ?_
  apply op_ld Rank.sc_22 rfl rfl
  ·exact rm
  ·rfl
  refine op_y (y_move rfl) rfl ?_
  refine op_y (y_max (r := ((rk : Nat) : Int)) rfl rfl (by rw [hrk]; split <;> omega)) rfl ?_
  refine op_y (y_assign rfl) rfl ?_
  refine op_nil ?_
  refine ent_then ?_
  refine cd_seq ?_
  refine cd_drawL [0, 1, 2, 3, 4, 5, 6, 7, 8, 9, 10, 11, 12, 13, 14, 15, 16, 17] [0, 0, 0, 3, 0, 0, 0, 0, 0, 1, 0, 0, 0, 1, 0, 4, 0, 2] mixed_ (by kernel_rfl) ?_
  refine op_y (y_move rfl) rfl ?_
  first | refine op_y (y_nil rfl) rfl ?_ | refine op_y (y_nili rfl) rfl ?_ | refine op_y (y_nilf rfl) rfl ?_
  first | refine op_y (y_fld Rank.fo_312_2 rfl) rfl ?_ | refine op_y (y_flda Rank.fo_312_2 rfl) rfl ?_
  apply op_lds Rank.sc_264 rfl rfl
  ·exact rm
  ·rfl
  ·(first | exact fun w h => h | exact fun w h => h.drop | (intro w h; apply Sat.only (h := h); exact sx))
  refine op_y (y_move rfl) rfl ?_
  refine op_y (y_move rfl) rfl ?_
  refine op_y (y_move rfl) rfl ?_
  first | refine op_y (y_nil rfl) rfl ?_ | refine op_y (y_nili rfl) rfl ?_ | refine op_y (y_nilf rfl) rfl ?_
  first | refine op_y (y_fld Rank.fo_312_1 rfl) rfl ?_ | refine op_y (y_flda Rank.fo_312_1 rfl) rfl ?_
  apply op_ld Rank.sc_23 rfl rfl
  ·exact rm
  ·rfl
  refine op_y (y_move rfl) rfl ?_
  first | refine op_y (y_ix0 (j := 0) Rank.sl_23 rfl rfl (by omega) (by omega)) rfl ?_ | refine op_y (y_ix (j := 0) Rank.sl_23 rfl rfl (by omega) (by omega)) rfl ?_ | refine op_y (y_ixa (j := 0) Rank.sl_23 rfl rfl (by omega) (by omega)) rfl ?_
  first | refine op_y (y_fld Rank.fo_197_1 rfl) rfl ?_ | refine op_y (y_flda Rank.fo_197_1 rfl) rfl ?_
  apply op_ld Rank.sc_22 rfl rfl
  ·exact rm
  ·exact flat_get Fl.cs5 (es := [fl1, fl2]) (i := 0) (j := 1) r1 rfl (by decide) rfl
  refine op_y (y_move rfl) rfl ?_
  apply op_c4 Rank.ca_171 rfl rfl (fun e he_ => satMulAdd_ct e rk 1 n hrk2 (by decide) hn)
  ·exact sx
  rintro _ _ ⟨rfl, rfl⟩ G_ hG_
  simp only [zn] at hG_; subst hG_
  refine ⟨by (first | exact fun w h => h | exact fun w h => h.drop | (intro w h; apply Sat.only (h := h); exact sx)), ?_⟩
  first | refine op_y (y_ix0 (j := 0) Rank.sl_264 rfl rfl (by omega) (by omega)) rfl ?_ | refine op_y (y_ix (j := 0) Rank.sl_264 rfl rfl (by omega) (by omega)) rfl ?_ | refine op_y (y_ixa (j := 0) Rank.sl_264 rfl rfl (by omega) (by omega)) rfl ?_
  apply op_st1 Rank.sz_22 rfl rfl rfl
  ·exact rm
  ·rfl
  ·(first | ((try simp only [zz, splice, Nat.reduceAdd, Nat.zero_mul, Fl.cs, Nat.zero]) <;> rfl) | rfl)
  refine op_nil ?_
  refine ent_then ?_
  refine cd_seq ?_
  refine cd_region [0, 0, 0] ?_
  refine op_y (y_move rfl) rfl ?_
  refine op_y (y_assign rfl) rfl ?_
  refine op_y (y_assign rfl) rfl ?_
  refine op_nil ?_
  refine ent_then ?_
  refine cd_ret ?_
  refine ent_block_ret ?_
  refine ent_thn_ret ?_
  refine ent_ret2 rfl rfl rfl ⟨_, ⟨rfl, rfl⟩, fun w h => ?_⟩
  refine rankI_shut ⟨some ⟨b1, 0, none⟩, c1, some ⟨b2, 0, none⟩, c2⟩ (sat_own2 (r1 := r1) (r2 := r2) h11 h12 (show ([Value.int .u64 (satAdd rk (satMul 1 n) : Nat), .int .u64 0]).length = 2 * 1 from rfl) (show ([Value.int .u64 (satAdd rk (satMul 1 n) : Nat), .int .u64 0] ++ r2).length = c2 * 1 from h22) ?_)
  simp only [List.cons_append, List.nil_append]
  apply Sat.only (h := h)
  exact sx
 ·skip
  have hE : rankOf 2 now virt tag = satAdd now 10 := rfl
  have hT : tagOf 2 virt tag n = tag := rfl
  rw [hE, hT]
  refine op_y (y_assign rfl) rfl ?_
  refine op_nil ?_
  refine ent_then ?_
  refine cd_seq ?_
  refine cd_seq ?_
  refine cd_region [0, 0] ?_
  refine op_y (y_move rfl) rfl ?_
  first | refine op_y (y_lt rfl rfl (decide_eq_true (by omega))) rfl ?_ | refine op_y (y_lt rfl rfl (decide_eq_false (by omega))) rfl ?_ | refine op_y (y_lt rfl rfl rfl) rfl ?_
  refine op_nil ?_
  refine ent_then ?_
  refine cd_iff rfl ?_
  refine cd_skip ?_
  refine ent_then ?_
  refine cd_seq ?_
  refine cd_region [0, 0, 0, 1, 0, 0, 1, 0] ?_
  refine op_y (y_move rfl) rfl ?_
  first | refine op_y (y_nil rfl) rfl ?_ | refine op_y (y_nili rfl) rfl ?_ | refine op_y (y_nilf rfl) rfl ?_
  first | refine op_y (y_fld Rank.fo_312_2 rfl) rfl ?_ | refine op_y (y_flda Rank.fo_312_2 rfl) rfl ?_
  apply op_ld Rank.sc_264 rfl rfl
  ·exact rm
  ·rfl
  refine op_y (y_move rfl) rfl ?_
  first | refine op_y (y_ix0 (j := 0) Rank.sl_264 rfl rfl (by omega) (by omega)) rfl ?_ | refine op_y (y_ix (j := 0) Rank.sl_264 rfl rfl (by omega) (by omega)) rfl ?_ | refine op_y (y_ixa (j := 0) Rank.sl_264 rfl rfl (by omega) (by omega)) rfl ?_
  apply op_ld Rank.sc_22 rfl rfl
  ·exact rm
  ·exact (rfl : ([Value.int .u64 tag, .int .u64 0] ++ r2)[0]? = some (.int .u64 tag))
  refine op_y (y_assign rfl) rfl ?_
  refine op_nil ?_
  refine ent_then ?_
  refine cd_seq ?_
  refine cd_seq ?_
  refine cd_region [0, 0, 0, 1] ?_
  refine op_y (y_move rfl) rfl ?_
  first | refine op_y (y_nil rfl) rfl ?_ | refine op_y (y_nili rfl) rfl ?_ | refine op_y (y_nilf rfl) rfl ?_
  first | refine op_y (y_fld0 Rank.fo_312_0 rfl) rfl ?_ | refine op_y (y_flda Rank.fo_312_0 rfl) rfl ?_
  apply op_ld Rank.sc_3 rfl rfl
  ·exact rm
  ·rfl
  refine op_nil ?_
  refine ent_then ?_
  refine cd_block ?_
  refine cd_seq ?_
  refine cd_region [0, 0] ?_
  first | refine op_y (y_eq rfl rfl (eqT (by omega))) rfl ?_ | refine op_y (y_eq rfl rfl (eqF (by omega))) rfl ?_ | refine op_y (y_eq rfl rfl rfl) rfl ?_
  refine op_y (y_assign rfl) rfl ?_
  refine op_nil ?_
  refine ent_then ?_
  refine cd_iff rfl ?_
  refine cd_seq ?_
  refine cd_region [0, 0] ?_
  first | refine op_y (y_eq rfl rfl (eqT (by omega))) rfl ?_ | refine op_y (y_eq rfl rfl (eqF (by omega))) rfl ?_ | refine op_y (y_eq rfl rfl rfl) rfl ?_
  refine op_y (y_assign rfl) rfl ?_
  refine op_nil ?_
  refine ent_then ?_
  refine cd_ift rfl ?_
  refine cd_seq ?_
  refine cd_region [0, 0, 0, 0, 1, 0, 0, 0, 1, 2, 0, 0] ?_
  refine op_y (y_move rfl) rfl ?_
  refine op_y (y_move rfl) rfl ?_
  first | refine op_y (y_nil rfl) rfl ?_ | refine op_y (y_nili rfl) rfl ?_ | refine op_y (y_nilf rfl) rfl ?_
  first | refine op_y (y_fld Rank.fo_312_1 rfl) rfl ?_ | refine op_y (y_flda Rank.fo_312_1 rfl) rfl ?_
  apply op_ld Rank.sc_23 rfl rfl
  ·exact rm
  ·rfl
  refine op_y (y_move rfl) rfl ?_
  first | refine op_y (y_ix0 (j := 0) Rank.sl_23 rfl rfl (by omega) (by omega)) rfl ?_ | refine op_y (y_ix (j := 0) Rank.sl_23 rfl rfl (by omega) (by omega)) rfl ?_ | refine op_y (y_ixa (j := 0) Rank.sl_23 rfl rfl (by omega) (by omega)) rfl ?_
  first | refine op_y (y_fld Rank.fo_197_2 rfl) rfl ?_ | refine op_y (y_flda Rank.fo_197_2 rfl) rfl ?_
  apply op_ld Rank.sc_22 rfl rfl
  ·exact rm
  ·exact flat_get Fl.cs5 (es := [fl1, fl2]) (i := 0) (j := 2) r1 rfl (by decide) rfl
  apply op_c Rank.ca_109 rfl rfl (fun e he_ => satAdd_ct e now 10 hnow (by decide))
  ·exact sx
  rintro _ _ ⟨rfl, rfl⟩ G_ hG_
  simp only [zn] at hG_; subst hG_
  refine op_y (y_assign rfl) rfl ?_
  refine op_y (y_assign rfl) rfl ?_
  refine op_nil ?_
  refine ent_then ?_
  refine cd_ret ?_
  refine ent_block_ret ?_
  refine ent_thn_ret ?_
  refine ent_ret2 rfl rfl rfl ⟨_, ⟨rfl, rfl⟩, fun w h => ?_⟩
  refine rankI_shut ⟨some ⟨b1, 0, none⟩, c1, some ⟨b2, 0, none⟩, c2⟩ (sat_own2 (r1 := r1) (r2 := r2) h11 h12 h21 h22 ?_)
  simp only [List.cons_append, List.nil_append]
  apply Sat.only (h := h)
  exact sx
theorem rSent_ct (c : Cx) (r kd virt tag rk : Nat) : Ct Tryz.prog 169 #[.pointer (some ⟨r, 0, none⟩), .int .u64 rk] c [rankI r kd virt tag] fun v L => v = .tuple #[] ∧ L = [rankI r kd (if kd = 1 then rk else virt) tag] := by
 refine ct_fn (args := [.pointer (some ⟨r, 0, none⟩), .int .u64 rk]) [(0, .pointer (some ⟨r, 0, none⟩)), (1, .int .u64 rk)] Tryz.func169 rfl Tryz.ntmps169 rfl ⟨rfl, rfl, trivial⟩ ?_
 refine cd_open rankI_open ?_
 rintro ⟨A1, c1, A2, c2⟩ -
 simp only []
 by_cases hk : kd = 1
 ·skip
  rw [if_pos hk]
  refine cd_seq ?_
  refine cd_region [0, 0, 0, 0, 0, 0, 1, 0, 0] ?_
  refine op_y (y_move rfl) rfl ?_
  first | refine op_y (y_pne (r := false) Rank.un_209 rfl rfl) rfl ?_ | refine op_y (y_pne (r := true) Rank.un_209 rfl rfl) rfl ?_ | refine op_y (y_pne Rank.un_209 rfl rfl) rfl ?_
  refine op_y (y_move rfl) rfl ?_
  first
   | refine op_s1 rfl rfl ⟨rfl, rfl⟩ ?_
   | refine op_s2 rfl rfl ⟨rfl, rfl⟩ ?_
   | (refine op_g rfl rfl ?_
      refine op_y (y_move rfl) rfl ?_)
  first
   | refine op_s1 rfl rfl ⟨rfl, rfl⟩ ?_
   | refine op_s2 rfl rfl ⟨rfl, rfl⟩ ?_
   | (refine op_g rfl rfl ?_
      first | refine op_y (y_nil rfl) rfl ?_ | refine op_y (y_nili rfl) rfl ?_ | refine op_y (y_nilf rfl) rfl ?_)
  first
   | refine op_s1 rfl rfl ⟨rfl, rfl⟩ ?_
   | refine op_s2 rfl rfl ⟨rfl, rfl⟩ ?_
   | (refine op_g rfl rfl ?_
      first | refine op_y (y_fld0 Rank.fo_312_0 rfl) rfl ?_ | refine op_y (y_flda Rank.fo_312_0 rfl) rfl ?_)
  first
   | refine op_s1 rfl rfl ⟨rfl, rfl⟩ ?_
   | refine op_s2 rfl rfl ⟨rfl, rfl⟩ ?_
   | (refine op_g rfl rfl ?_
      apply op_ld Rank.sc_3 rfl rfl
      ·exact rm
      ·rfl)
  first
   | refine op_s1 rfl rfl ⟨rfl, rfl⟩ ?_
   | refine op_s2 rfl rfl ⟨rfl, rfl⟩ ?_
   | (refine op_g rfl rfl ?_
      first | refine op_y (y_eq rfl rfl (eqT (by omega))) rfl ?_ | refine op_y (y_eq rfl rfl (eqF (by omega))) rfl ?_ | refine op_y (y_eq rfl rfl rfl) rfl ?_)
  first | refine op_y (y_pickt rfl rfl) rfl ?_ | refine op_y (y_pickf rfl rfl) rfl ?_ | refine op_y (y_pick rfl rfl rfl) rfl ?_
  refine op_nil ?_
  refine ent_then ?_
  refine cd_ift rfl ?_
  refine cd_region [0, 0, 0, 0, 2] ?_
  refine op_y (y_move rfl) rfl ?_
  refine op_y (y_move rfl) rfl ?_
  first | refine op_y (y_nil rfl) rfl ?_ | refine op_y (y_nili rfl) rfl ?_ | refine op_y (y_nilf rfl) rfl ?_
  first | refine op_y (y_fld Rank.fo_312_3 rfl) rfl ?_ | refine op_y (y_flda Rank.fo_312_3 rfl) rfl ?_
  apply op_st1 Rank.sz_22 rfl rfl rfl
  ·exact rm
  ·rfl
  ·(first | ((try simp only [zz, splice, Nat.reduceAdd, Nat.zero_mul, Fl.cs, Nat.zero]) <;> rfl) | rfl)
  refine op_nil ?_
  refine ent_end0 (.inl rfl) rfl ⟨_, ⟨rfl, rfl⟩, fun w h => rankI_shut ⟨A1, c1, A2, c2⟩ ?_⟩
  apply Sat.only (h := h)
  exact sx
 ·skip
  rw [if_neg hk]
  refine cd_seq ?_
  refine cd_region [0, 0, 0, 0, 0, 0, 1, 0, 0] ?_
  refine op_y (y_move rfl) rfl ?_
  first | refine op_y (y_pne (r := false) Rank.un_209 rfl rfl) rfl ?_ | refine op_y (y_pne (r := true) Rank.un_209 rfl rfl) rfl ?_ | refine op_y (y_pne Rank.un_209 rfl rfl) rfl ?_
  refine op_y (y_move rfl) rfl ?_
  first
   | refine op_s1 rfl rfl ⟨rfl, rfl⟩ ?_
   | refine op_s2 rfl rfl ⟨rfl, rfl⟩ ?_
   | (refine op_g rfl rfl ?_
      refine op_y (y_move rfl) rfl ?_)
  first
   | refine op_s1 rfl rfl ⟨rfl, rfl⟩ ?_
   | refine op_s2 rfl rfl ⟨rfl, rfl⟩ ?_
   | (refine op_g rfl rfl ?_
      first | refine op_y (y_nil rfl) rfl ?_ | refine op_y (y_nili rfl) rfl ?_ | refine op_y (y_nilf rfl) rfl ?_)
  first
   | refine op_s1 rfl rfl ⟨rfl, rfl⟩ ?_
   | refine op_s2 rfl rfl ⟨rfl, rfl⟩ ?_
   | (refine op_g rfl rfl ?_
      first | refine op_y (y_fld0 Rank.fo_312_0 rfl) rfl ?_ | refine op_y (y_flda Rank.fo_312_0 rfl) rfl ?_)
  first
   | refine op_s1 rfl rfl ⟨rfl, rfl⟩ ?_
   | refine op_s2 rfl rfl ⟨rfl, rfl⟩ ?_
   | (refine op_g rfl rfl ?_
      apply op_ld Rank.sc_3 rfl rfl
      ·exact rm
      ·rfl)
  first
   | refine op_s1 rfl rfl ⟨rfl, rfl⟩ ?_
   | refine op_s2 rfl rfl ⟨rfl, rfl⟩ ?_
   | (refine op_g rfl rfl ?_
      first | refine op_y (y_eq rfl rfl (eqT (by omega))) rfl ?_ | refine op_y (y_eq rfl rfl (eqF (by omega))) rfl ?_ | refine op_y (y_eq rfl rfl rfl) rfl ?_)
  first | refine op_y (y_pickt rfl rfl) rfl ?_ | refine op_y (y_pickf rfl rfl) rfl ?_ | refine op_y (y_pick rfl rfl rfl) rfl ?_
  refine op_nil ?_
  refine ent_then ?_
  refine cd_iff rfl ?_
  refine cd_skip ?_
  refine ent_end0 (.inl rfl) rfl ⟨_, ⟨rfl, rfl⟩, fun w h => rankI_shut ⟨A1, c1, A2, c2⟩ ?_⟩
  apply Sat.only (h := h)
  exact sx
end Go.Proofs.YtfkadaodnaaceaaGreatDoor
/- The set of numbers, of one level: a word of 64 bits. -/
namespace Go.Proofs.YtfkadaodnaaceaaGreatDoor
open Go Go.SL
theorem Ffs.ar_386 : arrK Tryz.prog 386 = some (64, 5, 1) := by kernel_rfl
theorem Ffs.ca_164 : callable Tryz.prog 164 = true := by kernel_rfl
theorem Ffs.ca_191 : callable Tryz.prog 191 = true := by kernel_rfl
theorem Ffs.ca_298 : callable Tryz.prog 298 = true := by kernel_rfl
theorem Ffs.ca_303 : callable Tryz.prog 303 = true := by kernel_rfl
theorem Ffs.ca_308 : callable Tryz.prog 308 = true := by kernel_rfl
theorem Ffs.fo_405_0 : fieldOff Tryz.prog 405 0 = some 0 := by kernel_rfl
theorem Ffs.fo_405_1 : fieldOff Tryz.prog 405 1 = some 1 := by kernel_rfl
theorem Ffs.sc_3 : scalarT Tryz.prog 3 = true := by kernel_rfl
theorem Ffs.sc_5 : scalarT Tryz.prog 5 = true := by kernel_rfl
theorem Ffs.sc_22 : scalarT Tryz.prog 22 = true := by kernel_rfl
theorem Ffs.sc_264 : scalarT Tryz.prog 264 = true := by kernel_rfl
theorem Ffs.sc_403 : scalarT Tryz.prog 403 = true := by kernel_rfl
theorem Ffs.sl_264 : sliceK Tryz.prog 264 = some (22, 1, 8) := by kernel_rfl
theorem Ffs.sl_403 : sliceK Tryz.prog 403 = some (264, 1, 24) := by kernel_rfl
theorem Ffs.sz_3 : sizeK Tryz.prog 3 = some 1 := by kernel_rfl
theorem Ffs.sz_22 : sizeK Tryz.prog 22 = some 1 := by kernel_rfl
theorem Ffs.un_3 : Tryz.prog.underlying 3 = some (.int .i64) := by kernel_rfl
theorem Ffs.un_5 : Tryz.prog.underlying 5 = some (.int .u8) := by kernel_rfl
theorem Ffs.un_264 : Tryz.prog.underlying 264 = some (.slice 22) := by kernel_rfl
theorem Ffs.un_354 : Tryz.prog.underlying 354 = some (.pointer 405) := by kernel_rfl
theorem Ffs.un_403 : Tryz.prog.underlying 403 = some (.slice 264) := by kernel_rfl
set_option maxRecDepth 100000
set_option maxHeartbeats 1000000
abbrev fcs (lb cap n : Nat) : List Value := [.slice (some ⟨lb, 0, none⟩) 1 cap, .int .i64 n]
/-- A set at block p, of one level, that has the numbers D. -/
def setI (p : Nat) (D : List Nat) : As := fun h => ∃ x : Nat × Nat × Nat × Nat × List Value, Bits x.1 D ∧
 sepL [pt p 405 (fcs x.2.1 x.2.2.1 D.length), pt x.2.1 264 (.slice (some ⟨x.2.2.2.1, 0, none⟩) 1 1 :: x.2.2.2.2), pt x.2.2.2.1 22 [.int .u64 x.1]] h
theorem setI_open {p : Nat} {D : List Nat} {M : List As} {c : Cx} (w : World) (h : Sat (setI p D :: M) c w) : ∃ x : Nat × Nat × Nat × Nat × List Value, Bits x.1 D ∧
 Sat (pt p 405 (fcs x.2.1 x.2.2.1 D.length) :: pt x.2.1 264 (.slice (some ⟨x.2.2.2.1, 0, none⟩) 1 1 :: x.2.2.2.2) :: pt x.2.2.2.1 22 [.int .u64 x.1] :: M) c w := by
 obtain ⟨h1, ⟨x, hx, hs⟩, d, k⟩ := h
 exact ⟨x, hx, Sat.sepL_iff.1 ⟨h1, hs, d, k⟩⟩
theorem setI_shut {p W lb cap b : Nat} {r : List Value} {D : List Nat} {M : List As} {c : Cx} {w : World} (hb : Bits W D)
 (h : Sat (pt p 405 (fcs lb cap D.length) :: pt lb 264 (.slice (some ⟨b, 0, none⟩) 1 1 :: r) :: pt b 22 [.int .u64 W] :: M) c w) : Sat (setI p D :: M) c w := by
 obtain ⟨h1, hs, d, k⟩ := Sat.sepL_iff.2 (show Sat ([_, _, _] ++ M) c w from h)
 exact ⟨h1, ⟨(W, lb, cap, b, r), hb, hs⟩, d, k⟩

theorem fLen_ct (c : Cx) (p : Nat) (D : List Nat) : Ct Tryz.prog 298 #[.pointer (some ⟨p, 0, none⟩)] c [setI p D] fun v L => v = .int .i64 D.length ∧ L = [setI p D] := by
 refine ct_fn (args := [.pointer (some ⟨p, 0, none⟩)]) [(0, .pointer (some ⟨p, 0, none⟩))] Tryz.func298 rfl Tryz.ntmps298 rfl ⟨rfl, trivial⟩ ?_
 refine cd_open setI_open ?_
 rintro ⟨W, lb, cap, b, r⟩ hb
 simp only [] at hb ⊢
 refine cd_seq ?_
 refine cd_region [0] ?_
 refine op_y (y_assign rfl) rfl ?_
 refine op_nil ?_
 refine ent_then ?_
 refine cd_seq ?_
 refine cd_seq ?_
 refine cd_region [0, 0] ?_
 refine op_y (y_move rfl) rfl ?_
 first | refine op_y (y_peq (r := false) Ffs.un_354 rfl rfl) rfl ?_ | refine op_y (y_peq (r := true) Ffs.un_354 rfl rfl) rfl ?_ | refine op_y (y_peq Ffs.un_354 rfl rfl) rfl ?_
 refine op_nil ?_
 refine ent_then ?_
 refine cd_iff rfl ?_
 refine cd_skip ?_
 refine ent_then ?_
 refine cd_seq ?_
 refine cd_region [0, 0, 0, 1, 0] ?_
 refine op_y (y_move rfl) rfl ?_
 first | refine op_y (y_nil rfl) rfl ?_ | refine op_y (y_nili rfl) rfl ?_ | refine op_y (y_nilf rfl) rfl ?_
 first | refine op_y (y_fld Ffs.fo_405_1 rfl) rfl ?_ | refine op_y (y_flda Ffs.fo_405_1 rfl) rfl ?_
 apply op_ld Ffs.sc_3 rfl rfl
 ·exact rm
 ·rfl
 refine op_y (y_assign rfl) rfl ?_
 refine op_nil ?_
 refine ent_then ?_
 refine cd_ret ?_
 refine ent_ret1 rfl rfl ⟨_, ⟨rfl, rfl⟩, fun w h => setI_shut hb h⟩
theorem fSize_ct (c : Cx) (p : Nat) (D : List Nat) : Ct Tryz.prog 191 #[.pointer (some ⟨p, 0, none⟩)] c [setI p D] fun v L => v = .int .i64 64 ∧ L = [setI p D] := by
 refine ct_fn (args := [.pointer (some ⟨p, 0, none⟩)]) [(0, .pointer (some ⟨p, 0, none⟩))] Tryz.func191 rfl Tryz.ntmps191 rfl ⟨rfl, trivial⟩ ?_
 refine cd_open setI_open ?_
 rintro ⟨W, lb, cap, b, r⟩ hb
 simp only [] at hb ⊢
 refine cd_seq ?_
 refine cd_region [0] ?_
 refine op_y (y_assign rfl) rfl ?_
 refine op_nil ?_
 refine ent_then ?_
 refine cd_seq ?_
 refine cd_seq ?_
 refine cd_region [0, 0, 0, 0, 0, 0, 1, 0, 0, 0] ?_
 refine op_y (y_move rfl) rfl ?_
 first | refine op_y (y_peq (r := false) Ffs.un_354 rfl rfl) rfl ?_ | refine op_y (y_peq (r := true) Ffs.un_354 rfl rfl) rfl ?_ | refine op_y (y_peq Ffs.un_354 rfl rfl) rfl ?_
 refine op_y (y_move rfl) rfl ?_
 first
  | refine op_s1 rfl rfl ⟨rfl, rfl⟩ ?_
  | refine op_s2 rfl rfl ⟨rfl, rfl⟩ ?_
  | (refine op_g rfl rfl ?_
     refine op_y (y_move rfl) rfl ?_)
 first
  | refine op_s1 rfl rfl ⟨rfl, rfl⟩ ?_
  | refine op_s2 rfl rfl ⟨rfl, rfl⟩ ?_
  | (refine op_g rfl rfl ?_
     first | refine op_y (y_nil rfl) rfl ?_ | refine op_y (y_nili rfl) rfl ?_ | refine op_y (y_nilf rfl) rfl ?_)
 first
  | refine op_s1 rfl rfl ⟨rfl, rfl⟩ ?_
  | refine op_s2 rfl rfl ⟨rfl, rfl⟩ ?_
  | (refine op_g rfl rfl ?_
     first | refine op_y (y_fld0 Ffs.fo_405_0 rfl) rfl ?_ | refine op_y (y_flda Ffs.fo_405_0 rfl) rfl ?_)
 first
  | refine op_s1 rfl rfl ⟨rfl, rfl⟩ ?_
  | refine op_s2 rfl rfl ⟨rfl, rfl⟩ ?_
  | (refine op_g rfl rfl ?_
     apply op_ld Ffs.sc_403 rfl rfl
     ·exact rm
     ·rfl)
 first
  | refine op_s1 rfl rfl ⟨rfl, rfl⟩ ?_
  | refine op_s2 rfl rfl ⟨rfl, rfl⟩ ?_
  | (refine op_g rfl rfl ?_
     refine op_y (y_len Ffs.un_403 rfl) rfl ?_)
 first
  | refine op_s1 rfl rfl ⟨rfl, rfl⟩ ?_
  | refine op_s2 rfl rfl ⟨rfl, rfl⟩ ?_
  | (refine op_g rfl rfl ?_
     first | refine op_y (y_eq rfl rfl (eqT (by omega))) rfl ?_ | refine op_y (y_eq rfl rfl (eqF (by omega))) rfl ?_ | refine op_y (y_eq rfl rfl rfl) rfl ?_)
 first | refine op_y (y_pickt rfl rfl) rfl ?_ | refine op_y (y_pickf rfl rfl) rfl ?_ | refine op_y (y_pick rfl rfl rfl) rfl ?_
 refine op_nil ?_
 refine ent_then ?_
 refine cd_iff rfl ?_
 refine cd_skip ?_
 refine ent_then ?_
 refine cd_seq ?_
 refine cd_draw ([]) [0, 1, 2, 3, 4, 5, 6, 7, 8, 9, 10, 11, 12, 13, 14] [0, 0, 0, 1, 0, 0, 0, 1, 0, 0, 0, 1, 0, 0, 0] mixed_ (by kernel_rfl) ?_
 refine op_y (y_move rfl) rfl ?_
 first | refine op_y (y_nil rfl) rfl ?_ | refine op_y (y_nili rfl) rfl ?_ | refine op_y (y_nilf rfl) rfl ?_
 first | refine op_y (y_fld0 Ffs.fo_405_0 rfl) rfl ?_ | refine op_y (y_flda Ffs.fo_405_0 rfl) rfl ?_
 apply op_ld Ffs.sc_403 rfl rfl
 ·exact rm
 ·rfl
 refine op_y (y_move rfl) rfl ?_
 first | refine op_y (y_nil rfl) rfl ?_ | refine op_y (y_nili rfl) rfl ?_ | refine op_y (y_nilf rfl) rfl ?_
 first | refine op_y (y_fld0 Ffs.fo_405_0 rfl) rfl ?_ | refine op_y (y_flda Ffs.fo_405_0 rfl) rfl ?_
 apply op_ld Ffs.sc_403 rfl rfl
 ·exact rm
 ·rfl
 refine op_y (y_len Ffs.un_403 rfl) rfl ?_
 first | refine op_y (y_sub rfl rfl (wi64 (by omega) (by omega))) rfl ?_ | refine op_y (y_sub rfl rfl rfl) rfl ?_
 first | refine op_y (y_ix0 Ffs.sl_403 rfl rfl rfl (by omega)) rfl ?_ | refine op_y (y_ix0 Ffs.sl_403 rfl rfl (Int.toNat_of_nonneg (by omega)).symm (by omega)) rfl ?_ | refine op_y (y_ix Ffs.sl_403 rfl rfl rfl (by omega)) rfl ?_ | refine op_y (y_ix Ffs.sl_403 rfl rfl (Int.toNat_of_nonneg (by omega)).symm (by omega)) rfl ?_ | refine op_y (y_ixa Ffs.sl_403 rfl rfl rfl (by omega)) rfl ?_ | refine op_y (y_ixa Ffs.sl_403 rfl rfl (Int.toNat_of_nonneg (by omega)).symm (by omega)) rfl ?_
 apply op_ld Ffs.sc_264 rfl rfl
 ·exact rm
 ·rfl
 refine op_y (y_len Ffs.un_264 rfl) rfl ?_
 first | refine op_y (y_mul rfl rfl (wi64 (by omega) (by omega))) rfl ?_ | refine op_y (y_mul rfl rfl rfl) rfl ?_
 refine op_y (y_assign rfl) rfl ?_
 refine op_nil ?_
 refine ent_then ?_
 refine cd_ret ?_
 refine ent_ret1 rfl rfl ⟨_, ⟨rfl, rfl⟩, fun w h => setI_shut hb h⟩
theorem fHas_ct (c : Cx) (p i : Nat) (D : List Nat) (hi : i < 64) : Ct Tryz.prog 303 #[.pointer (some ⟨p, 0, none⟩), .int .i64 i] c [setI p D] fun v L => v = .bool (decide (i ∈ D)) ∧ L = [setI p D] := by
 refine ct_fn (args := [.pointer (some ⟨p, 0, none⟩), .int .i64 i]) [(0, .pointer (some ⟨p, 0, none⟩)), (1, .int .i64 i)] Tryz.func303 rfl Tryz.ntmps303 rfl ⟨rfl, rfl, trivial⟩ ?_
 refine cd_seq ?_
 refine cd_region [0] ?_
 refine op_y (y_assign rfl) rfl ?_
 refine op_nil ?_
 refine ent_then ?_
 refine cd_seq ?_
 refine cd_seq ?_
 refine cd_region [0, 0, 0, 0, 0, 2, 0, 0] ?_
 refine op_y (y_move rfl) rfl ?_
 first | refine op_y (y_lt rfl rfl (decide_eq_true (by omega))) rfl ?_ | refine op_y (y_lt rfl rfl (decide_eq_false (by omega))) rfl ?_ | refine op_y (y_lt rfl rfl rfl) rfl ?_
 refine op_y (y_move rfl) rfl ?_
 first
  | refine op_s1 rfl rfl ⟨rfl, rfl⟩ ?_
  | refine op_s2 rfl rfl ⟨rfl, rfl⟩ ?_
  | (refine op_g rfl rfl ?_
     refine op_y (y_move rfl) rfl ?_)
 first
  | refine op_s1 rfl rfl ⟨rfl, rfl⟩ ?_
  | refine op_s2 rfl rfl ⟨rfl, rfl⟩ ?_
  | (refine op_g rfl rfl ?_
     refine op_y (y_move rfl) rfl ?_)
 refine op_g rfl rfl ?_
 apply op_c Ffs.ca_191 rfl rfl (fun e he_ => fSize_ct e p D)
 ·exact sx
 rintro _ _ ⟨rfl, rfl⟩ G_ hG_
 simp only [zn] at hG_; subst hG_
 first
  | refine op_s1 rfl rfl ⟨rfl, rfl⟩ ?_
  | refine op_s2 rfl rfl ⟨rfl, rfl⟩ ?_
  | (refine op_g rfl rfl ?_
     first | refine op_y (y_ge rfl rfl (decide_eq_true (by omega))) rfl ?_ | refine op_y (y_ge rfl rfl (decide_eq_false (by omega))) rfl ?_ | refine op_y (y_ge rfl rfl rfl) rfl ?_)
 first | refine op_y (y_pickt rfl rfl) rfl ?_ | refine op_y (y_pickf rfl rfl) rfl ?_ | refine op_y (y_pick rfl rfl rfl) rfl ?_
 refine op_nil ?_
 refine ent_then ?_
 refine cd_iff rfl ?_
 refine cd_open setI_open ?_
 rintro ⟨W, lb, cap, b, r⟩ hb
 simp only [] at hb ⊢
 have hW := hb.lt
 have hlt : W >>> i < 18446744073709551616 := by rw [Nat.shiftRight_eq_div_pow]; exact Nat.lt_of_le_of_lt (Nat.div_le_self _ _) hW
 refine cd_skip ?_
 refine ent_then ?_
 refine cd_seq ?_
 refine cd_draw ([]) [0, 1, 2, 3, 4, 5, 6, 7, 8, 9, 10, 11, 12, 13, 14, 15, 16, 17, 18, 19, 20, 21] [0, 0, 0, 1, 0, 0, 0, 1, 0, 0, 0, 1, 0, 0, 0, 1, 0, 0, 0, 0, 0, 0] mixed_ (by kernel_rfl) ?_
 refine op_y (y_move rfl) rfl ?_
 first | refine op_y (y_nil rfl) rfl ?_ | refine op_y (y_nili rfl) rfl ?_ | refine op_y (y_nilf rfl) rfl ?_
 first | refine op_y (y_fld0 Ffs.fo_405_0 rfl) rfl ?_ | refine op_y (y_flda Ffs.fo_405_0 rfl) rfl ?_
 apply op_ld Ffs.sc_403 rfl rfl
 ·exact rm
 ·rfl
 refine op_y (y_move rfl) rfl ?_
 first | refine op_y (y_nil rfl) rfl ?_ | refine op_y (y_nili rfl) rfl ?_ | refine op_y (y_nilf rfl) rfl ?_
 first | refine op_y (y_fld0 Ffs.fo_405_0 rfl) rfl ?_ | refine op_y (y_flda Ffs.fo_405_0 rfl) rfl ?_
 apply op_ld Ffs.sc_403 rfl rfl
 ·exact rm
 ·rfl
 refine op_y (y_len Ffs.un_403 rfl) rfl ?_
 first | refine op_y (y_sub rfl rfl (wi64 (by omega) (by omega))) rfl ?_ | refine op_y (y_sub rfl rfl rfl) rfl ?_
 first | refine op_y (y_ix0 Ffs.sl_403 rfl rfl rfl (by omega)) rfl ?_ | refine op_y (y_ix0 Ffs.sl_403 rfl rfl (Int.toNat_of_nonneg (by omega)).symm (by omega)) rfl ?_ | refine op_y (y_ix Ffs.sl_403 rfl rfl rfl (by omega)) rfl ?_ | refine op_y (y_ix Ffs.sl_403 rfl rfl (Int.toNat_of_nonneg (by omega)).symm (by omega)) rfl ?_ | refine op_y (y_ixa Ffs.sl_403 rfl rfl rfl (by omega)) rfl ?_ | refine op_y (y_ixa Ffs.sl_403 rfl rfl (Int.toNat_of_nonneg (by omega)).symm (by omega)) rfl ?_
 apply op_ld Ffs.sc_264 rfl rfl
 ·exact rm
 ·rfl
 refine op_y (y_move rfl) rfl ?_
 first | refine op_y (y_quon rfl rfl (by omega) (by omega) (wi64 (by omega) (by omega))) rfl ?_ | refine op_y (y_quo rfl rfl (by omega) rfl) rfl ?_
 first | refine op_y (y_ix0 (j := 0) Ffs.sl_264 rfl rfl (by omega) (by omega)) rfl ?_ | refine op_y (y_ix (j := 0) Ffs.sl_264 rfl rfl (by omega) (by omega)) rfl ?_ | refine op_y (y_ixa (j := 0) Ffs.sl_264 rfl rfl (by omega) (by omega)) rfl ?_
 apply op_ld Ffs.sc_22 rfl rfl
 ·exact rm
 ·rfl
 refine op_y (y_move rfl) rfl ?_
 first | refine op_y (y_remn rfl rfl (by omega) (by omega)) rfl ?_ | refine op_y (y_rem rfl rfl (by omega) rfl) rfl ?_
 refine op_y (y_shrN (a := W) (b := i) rfl rfl rfl (by omega) (by show _ ≤ 64; omega)) rfl ?_
 refine op_y (y_andN (a := W >>> i) (b := 1) rfl rfl rfl rfl rfl hlt (by decide)) rfl ?_
 refine op_y (y_eq rfl rfl (hb.has hi)) rfl ?_
 refine op_y (y_assign rfl) rfl ?_
 refine op_nil ?_
 refine ent_then ?_
 refine cd_ret ?_
 refine ent_ret1 rfl rfl ⟨_, ⟨rfl, rfl⟩, fun w h => setI_shut hb h⟩

/-- The table by which the lowest bit's place is found, in its variable. -/
abbrev tabR : List Value := Lib.deBruijn64tab.map fun k : Nat => Value.int .u8 (k : Int)
abbrev tabA : As := pt 0 386 tabR
theorem tabget {idx k : Nat} (hi : idx < 64) (h : Lib.deBruijn64tab.getD idx 0 = k) : (Lib.deBruijn64tab.map fun k : Nat => Value.int .u8 (k : Int))[0 + idx * 1]? = some (.int .u8 k) := by
 rw [Nat.zero_add, Nat.mul_one, List.getElem?_map]
 have hl : Lib.deBruijn64tab.length = 64 := by decide
 rw [List.getD_eq_getElem?_getD] at h
 cases hg : Lib.deBruijn64tab[idx]? with
 | none => rw [List.getElem?_eq_none_iff] at hg; omega
 | some v => rw [hg] at h; simp only [Option.getD_some] at h; subst h; rfl
theorem tz_ct (c : Cx) (x : Nat) (hx : x < 18446744073709551616) : Ct Tryz.prog 164 #[.int .u64 x] c [tabA] fun v L => v = .int .i64 (Lib.ctz 64 x) ∧ L = [tabA] := by
 refine ct_fn (args := [.int .u64 x]) [(0, .int .u64 x)] Tryz.func164 rfl Tryz.ntmps164 rfl ⟨rfl, trivial⟩ ?_
 by_cases h0 : x = 0
 ·skip
  subst h0
  refine cd_seq ?_
  refine cd_region [0] ?_
  refine op_y (y_assign rfl) rfl ?_
  refine op_nil ?_
  refine ent_then ?_
  refine cd_seq ?_
  refine cd_seq ?_
  refine cd_region [0, 0] ?_
  refine op_y (y_move rfl) rfl ?_
  first | refine op_y (y_eq rfl rfl (eqT (by omega))) rfl ?_ | refine op_y (y_eq rfl rfl (eqF (by omega))) rfl ?_ | refine op_y (y_eq rfl rfl rfl) rfl ?_
  refine op_nil ?_
  refine ent_then ?_
  refine cd_ift rfl ?_
  refine cd_seq ?_
  refine cd_region [0] ?_
  refine op_y (y_assign rfl) rfl ?_
  refine op_nil ?_
  refine ent_then ?_
  refine cd_ret ?_
  refine ent_thn_ret ?_
  refine ent_ret1 rfl rfl ⟨_, ⟨rfl, rfl⟩, fun w h => h⟩
 ·skip
  obtain ⟨hlow, hk⟩ := Lib.lowest_bit 64 x h0 hx
  obtain ⟨hi, htab⟩ := Lib.deBruijn64_at _ hk
  have key := Go.Proofs.tz64_key x _ hx h0 hlow
  obtain ⟨idx, eidx⟩ : ∃ idx, idx = 2 ^ Lib.ctz 64 x * 285870213051353865 % 18446744073709551616 / 288230376151711744 := ⟨_, rfl⟩
  rw [← eidx] at hi htab key
  refine cd_seq ?_
  refine cd_region [0] ?_
  refine op_y (y_assign rfl) rfl ?_
  refine op_nil ?_
  refine ent_then ?_
  refine cd_seq ?_
  refine cd_seq ?_
  refine cd_region [0, 0] ?_
  refine op_y (y_move rfl) rfl ?_
  first | refine op_y (y_eq rfl rfl (eqT (by omega))) rfl ?_ | refine op_y (y_eq rfl rfl (eqF (by omega))) rfl ?_ | refine op_y (y_eq rfl rfl rfl) rfl ?_
  refine op_nil ?_
  refine ent_then ?_
  refine cd_iff rfl ?_
  refine cd_skip ?_
  refine ent_then ?_
  refine cd_seq ?_
  refine cd_region [0, 0, 0, 0, 0, 0, 0, 1, 0, 0] ?_
  refine op_y (y_move rfl) rfl ?_
  refine op_y (y_move rfl) rfl ?_
  refine op_y (y_neg (r := ((18446744073709551616 - x : Nat) : Int)) rfl (by rw [IntKind.wrap_u64]; omega)) rfl ?_
  refine op_y (y_andN (a := x) (b := 18446744073709551616 - x) rfl rfl rfl rfl rfl hx (by show _ < 18446744073709551616; omega)) rfl ?_
  refine op_y (y_mul (r := ((2 ^ Lib.ctz 64 x * 285870213051353865 % 18446744073709551616 : Nat) : Int)) rfl rfl (by rw [hlow, IntKind.wrap_u64]; omega)) rfl ?_
  refine op_y (y_shr (r := (idx : Int)) rfl rfl (by decide) ((shrN_eq (k := .u64) (b := 58) (by decide)).trans (by rw [eidx, Nat.shiftRight_eq_div_pow]))) rfl ?_
  refine op_y (y_ixv (j := idx) Ffs.ar_386 rfl rfl (by omega) (by omega)) rfl ?_
  apply op_ld Ffs.sc_5 rfl rfl
  ·exact rm
  ·exact tabget hi htab
  first | refine op_y (y_conv Ffs.un_5 Ffs.un_3 rfl (wi64 (by omega) (by omega))) rfl ?_ | refine op_y (y_conv Ffs.un_5 Ffs.un_3 rfl rfl) rfl ?_
  refine op_y (y_assign rfl) rfl ?_
  refine op_nil ?_
  refine ent_then ?_
  refine cd_ret ?_
  refine ent_ret1 rfl rfl ⟨_, ⟨rfl, rfl⟩, fun w h => h⟩

/-- The first number at a place, or behind it. -/
theorem bits_first {W i : Nat} {D : List Nat} (h : Bits W D) (hz : W >>> i ≠ 0) : ∃ j, j = i + Lib.ctz 64 (W >>> i) ∧ j ∈ D ∧ i ≤ j ∧ ∀ k ∈ D, i ≤ k → j ≤ k := by
 have hlt : W >>> i < 2 ^ 64 := by rw [Nat.shiftRight_eq_div_pow]; exact Nat.lt_of_le_of_lt (Nat.div_le_self _ _) h.lt
 obtain ⟨m, hm, hk⟩ := Lib.ctzFrom_spec 64 (W >>> i) (Nat.pos_of_ne_zero hz) hlt
 have e : Lib.ctz 64 (W >>> i) = Lib.ctzFrom 64 (W >>> i) := by simp [Lib.ctz, hz]
 rw [← e] at hm hk
 have hbit : ∀ t, (W >>> i).testBit t = (decide (Lib.ctz 64 (W >>> i) ≤ t) && (2 * m + 1).testBit (t - Lib.ctz 64 (W >>> i))) := fun t => by
  conv => lhs; rw [hm]
  rw [Nat.mul_comm, Nat.testBit_mul_two_pow]
 have hon : W.testBit (i + Lib.ctz 64 (W >>> i)) = true := by
  have := hbit (Lib.ctz 64 (W >>> i))
  rw [Nat.testBit_shiftRight] at this
  rw [this]; simp
 have hj : i + Lib.ctz 64 (W >>> i) < 64 := by
  refine Classical.byContradiction fun hn => ?_
  rw [Nat.testBit_lt_two_pow (Nat.lt_of_lt_of_le h.lt (Nat.pow_le_pow_right (by decide) (by omega : 64 ≤ i + Lib.ctz 64 (W >>> i))))] at hon
  cases hon
 refine ⟨_, rfl, by simpa [h.bit _ hj] using hon, by omega, fun k hk' hik => ?_⟩
 have hkon : W.testBit k = true := by rw [h.bit k (h.le k hk')]; simpa using hk'
 refine Classical.byContradiction fun hn => ?_
 have := hbit (k - i)
 rw [Nat.testBit_shiftRight, show i + (k - i) = k by omega, hkon] at this
 simp at this
 omega
theorem bits_none {W i : Nat} {D : List Nat} (h : Bits W D) (hz : W >>> i = 0) : ∀ k ∈ D, k < i := fun k hk => by
 refine Classical.byContradiction fun hn => ?_
 have hkon : W.testBit k = true := by rw [h.bit k (h.le k hk)]; simpa using hk
 have : (W >>> i).testBit (k - i) = W.testBit k := by rw [Nat.testBit_shiftRight]; congr 1; omega
 rw [hz, hkon] at this
 simp at this

theorem fAbove_ct (c : Cx) (p i : Nat) (D : List Nat) (hi : i < 64) : Ct Tryz.prog 308 #[.pointer (some ⟨p, 0, none⟩), .int .i64 0, .int .i64 i] c [setI p D, tabA]
 fun v L => ∃ r : Int, v = .int .i64 r ∧ L = [setI p D, tabA] ∧ ((∃ j : Nat, r = j ∧ j ∈ D ∧ i ≤ j ∧ ∀ k ∈ D, i ≤ k → j ≤ k) ∨ (r = -1 ∧ ∀ k ∈ D, k < i)) := by
 refine ct_fn (args := [.pointer (some ⟨p, 0, none⟩), .int .i64 0, .int .i64 i]) [(0, .pointer (some ⟨p, 0, none⟩)), (1, .int .i64 0), (2, .int .i64 i)] Tryz.func308 rfl Tryz.ntmps308 rfl ⟨rfl, rfl, rfl, trivial⟩ ?_
 refine cd_open setI_open ?_
 rintro ⟨W, lb, cap, b, r⟩ hb
 simp only [] at hb ⊢
 have hW := hb.lt
 have hlt : W >>> i < 18446744073709551616 := by rw [Nat.shiftRight_eq_div_pow]; exact Nat.lt_of_le_of_lt (Nat.div_le_self _ _) hW
 have hfst := bits_first hb (i := i)
 have hnon := bits_none hb (i := i)
 obtain ⟨s, es⟩ : ∃ s, W >>> i = s := ⟨_, rfl⟩
 rw [es] at hlt hfst hnon
 by_cases hz : s = 0
 ·skip
  subst hz
  refine cd_seq ?_
  refine cd_region [0] ?_
  refine op_y (y_assign rfl) rfl ?_
  refine op_nil ?_
  refine ent_then ?_
  refine cd_seq ?_
  refine cd_region [0, 0, 0, 1, 0, 0, 1, 0] ?_
  refine op_y (y_move rfl) rfl ?_
  first | refine op_y (y_nil rfl) rfl ?_ | refine op_y (y_nili rfl) rfl ?_ | refine op_y (y_nilf rfl) rfl ?_
  first | refine op_y (y_fld0 Ffs.fo_405_0 rfl) rfl ?_ | refine op_y (y_flda Ffs.fo_405_0 rfl) rfl ?_
  apply op_ld Ffs.sc_403 rfl rfl
  ·exact rm
  ·rfl
  refine op_y (y_move rfl) rfl ?_
  first | refine op_y (y_ix0 (j := 0) Ffs.sl_403 rfl rfl (by omega) (by omega)) rfl ?_ | refine op_y (y_ix (j := 0) Ffs.sl_403 rfl rfl (by omega) (by omega)) rfl ?_ | refine op_y (y_ixa (j := 0) Ffs.sl_403 rfl rfl (by omega) (by omega)) rfl ?_
  apply op_ld Ffs.sc_264 rfl rfl
  ·exact rm
  ·rfl
  refine op_y (y_assign rfl) rfl ?_
  refine op_nil ?_
  refine ent_then ?_
  refine cd_seq ?_
  refine cd_seq ?_
  refine cd_region [0, 0, 0, 0, 0] ?_
  refine op_y (y_move rfl) rfl ?_
  refine op_y (y_move rfl) rfl ?_
  refine op_y (y_len Ffs.un_264 rfl) rfl ?_
  first | refine op_y (y_mul rfl rfl (wi64 (by omega) (by omega))) rfl ?_ | refine op_y (y_mul rfl rfl rfl) rfl ?_
  first | refine op_y (y_ge rfl rfl (decide_eq_true (by omega))) rfl ?_ | refine op_y (y_ge rfl rfl (decide_eq_false (by omega))) rfl ?_ | refine op_y (y_ge rfl rfl rfl) rfl ?_
  refine op_nil ?_
  refine ent_then ?_
  refine cd_iff rfl ?_
  refine cd_skip ?_
  refine ent_then ?_
  refine cd_seq ?_
  refine cd_seq ?_
  refine cd_region [0, 0, 0, 0, 1, 0, 0, 0, 0] ?_
  refine op_y (y_move rfl) rfl ?_
  refine op_y (y_move rfl) rfl ?_
  first | refine op_y (y_quon rfl rfl (by omega) (by omega) (wi64 (by omega) (by omega))) rfl ?_ | refine op_y (y_quo rfl rfl (by omega) rfl) rfl ?_
  first | refine op_y (y_ix0 (j := 0) Ffs.sl_264 rfl rfl (by omega) (by omega)) rfl ?_ | refine op_y (y_ix (j := 0) Ffs.sl_264 rfl rfl (by omega) (by omega)) rfl ?_ | refine op_y (y_ixa (j := 0) Ffs.sl_264 rfl rfl (by omega) (by omega)) rfl ?_
  apply op_ld Ffs.sc_22 rfl rfl
  ·exact rm
  ·rfl
  refine op_y (y_move rfl) rfl ?_
  first | refine op_y (y_remn rfl rfl (by omega) (by omega)) rfl ?_ | refine op_y (y_rem rfl rfl (by omega) rfl) rfl ?_
  refine op_y ((es ▸ y_shrN (a := W) (b := i) rfl rfl rfl (by omega) (by show _ ≤ 64; omega))) rfl ?_
  refine op_y (y_assign rfl) rfl ?_
  refine op_nil ?_
  refine ent_then ?_
  refine cd_seq ?_
  refine cd_region [0, 0] ?_
  refine op_y (y_move rfl) rfl ?_
  first | refine op_y (y_ne rfl rfl (neT (by omega))) rfl ?_ | refine op_y (y_ne rfl rfl (neF (by omega))) rfl ?_ | refine op_y (y_ne rfl rfl rfl) rfl ?_
  refine op_nil ?_
  refine ent_then ?_
  refine cd_iff rfl ?_
  refine cd_skip ?_
  refine ent_then ?_
  refine cd_seq ?_
  refine cd_seq ?_
  refine cd_region [0, 0] ?_
  refine op_y (y_move rfl) rfl ?_
  first | refine op_y (y_eq rfl rfl (eqT (by omega))) rfl ?_ | refine op_y (y_eq rfl rfl (eqF (by omega))) rfl ?_ | refine op_y (y_eq rfl rfl rfl) rfl ?_
  refine op_nil ?_
  refine ent_then ?_
  refine cd_ift rfl ?_
  refine cd_seq ?_
  refine cd_region [0] ?_
  refine op_y (y_assign rfl) rfl ?_
  refine op_nil ?_
  refine ent_then ?_
  refine cd_ret ?_
  refine ent_thn_ret ?_
  refine ent_ret1 rfl rfl ⟨_, ⟨_, rfl, rfl, .inr ⟨rfl, hnon rfl⟩⟩, fun w h => setI_shut hb (lb := lb) (cap := cap) (b := b) (r := r) ?_⟩
  apply Sat.only (h := h)
  exact sx
 ·skip
  obtain ⟨j, ej, hj⟩ := hfst hz
  refine cd_seq ?_
  refine cd_region [0] ?_
  refine op_y (y_assign rfl) rfl ?_
  refine op_nil ?_
  refine ent_then ?_
  refine cd_seq ?_
  refine cd_region [0, 0, 0, 1, 0, 0, 1, 0] ?_
  refine op_y (y_move rfl) rfl ?_
  first | refine op_y (y_nil rfl) rfl ?_ | refine op_y (y_nili rfl) rfl ?_ | refine op_y (y_nilf rfl) rfl ?_
  first | refine op_y (y_fld0 Ffs.fo_405_0 rfl) rfl ?_ | refine op_y (y_flda Ffs.fo_405_0 rfl) rfl ?_
  apply op_ld Ffs.sc_403 rfl rfl
  ·exact rm
  ·rfl
  refine op_y (y_move rfl) rfl ?_
  first | refine op_y (y_ix0 (j := 0) Ffs.sl_403 rfl rfl (by omega) (by omega)) rfl ?_ | refine op_y (y_ix (j := 0) Ffs.sl_403 rfl rfl (by omega) (by omega)) rfl ?_ | refine op_y (y_ixa (j := 0) Ffs.sl_403 rfl rfl (by omega) (by omega)) rfl ?_
  apply op_ld Ffs.sc_264 rfl rfl
  ·exact rm
  ·rfl
  refine op_y (y_assign rfl) rfl ?_
  refine op_nil ?_
  refine ent_then ?_
  refine cd_seq ?_
  refine cd_seq ?_
  refine cd_region [0, 0, 0, 0, 0] ?_
  refine op_y (y_move rfl) rfl ?_
  refine op_y (y_move rfl) rfl ?_
  refine op_y (y_len Ffs.un_264 rfl) rfl ?_
  first | refine op_y (y_mul rfl rfl (wi64 (by omega) (by omega))) rfl ?_ | refine op_y (y_mul rfl rfl rfl) rfl ?_
  first | refine op_y (y_ge rfl rfl (decide_eq_true (by omega))) rfl ?_ | refine op_y (y_ge rfl rfl (decide_eq_false (by omega))) rfl ?_ | refine op_y (y_ge rfl rfl rfl) rfl ?_
  refine op_nil ?_
  refine ent_then ?_
  refine cd_iff rfl ?_
  refine cd_skip ?_
  refine ent_then ?_
  refine cd_seq ?_
  refine cd_seq ?_
  refine cd_region [0, 0, 0, 0, 1, 0, 0, 0, 0] ?_
  refine op_y (y_move rfl) rfl ?_
  refine op_y (y_move rfl) rfl ?_
  first | refine op_y (y_quon rfl rfl (by omega) (by omega) (wi64 (by omega) (by omega))) rfl ?_ | refine op_y (y_quo rfl rfl (by omega) rfl) rfl ?_
  first | refine op_y (y_ix0 (j := 0) Ffs.sl_264 rfl rfl (by omega) (by omega)) rfl ?_ | refine op_y (y_ix (j := 0) Ffs.sl_264 rfl rfl (by omega) (by omega)) rfl ?_ | refine op_y (y_ixa (j := 0) Ffs.sl_264 rfl rfl (by omega) (by omega)) rfl ?_
  apply op_ld Ffs.sc_22 rfl rfl
  ·exact rm
  ·rfl
  refine op_y (y_move rfl) rfl ?_
  first | refine op_y (y_remn rfl rfl (by omega) (by omega)) rfl ?_ | refine op_y (y_rem rfl rfl (by omega) rfl) rfl ?_
  refine op_y ((es ▸ y_shrN (a := W) (b := i) rfl rfl rfl (by omega) (by show _ ≤ 64; omega))) rfl ?_
  refine op_y (y_assign rfl) rfl ?_
  refine op_nil ?_
  refine ent_then ?_
  refine cd_seq ?_
  refine cd_region [0, 0] ?_
  refine op_y (y_move rfl) rfl ?_
  first | refine op_y (y_ne rfl rfl (neT (by omega))) rfl ?_ | refine op_y (y_ne rfl rfl (neF (by omega))) rfl ?_ | refine op_y (y_ne rfl rfl rfl) rfl ?_
  refine op_nil ?_
  refine ent_then ?_
  refine cd_ift rfl ?_
  refine cd_seq ?_
  refine cd_region [0, 0, 2, 0, 0] ?_
  refine op_y (y_move rfl) rfl ?_
  refine op_y (y_move rfl) rfl ?_
  apply op_c Ffs.ca_164 rfl rfl (fun e he_ => tz_ct e _ hlt)
  ·exact sx
  rintro _ _ ⟨rfl, rfl⟩ G_ hG_
  simp only [zn] at hG_; subst hG_
  have hj64 := hb.le j hj.1
  have ej' : ((i : Int) + (Lib.ctz 64 s : Nat)) = (j : Int) := by omega
  refine op_y (y_add (r := (j : Int)) rfl rfl (by rw [ej', IntKind.wrap_i64]; omega)) rfl ?_
  refine op_y (y_assign rfl) rfl ?_
  refine op_nil ?_
  refine ent_then ?_
  refine cd_ret ?_
  refine ent_thn_ret ?_
  refine ent_ret1 rfl rfl ⟨_, ⟨_, rfl, rfl, .inl ⟨j, rfl, hj⟩⟩, fun w h => setI_shut hb (lb := lb) (cap := cap) (b := b) (r := r) ?_⟩
  apply Sat.only (h := h)
  exact sx

/-- Round about, from a place on. -/
theorem fFrom_ct (c : Cx) (p i : Nat) (D : List Nat) (hi : i < 64) (hD : D ≠ []) (hDl : D.length ≤ 64) : Ct Tryz.prog 300 #[.pointer (some ⟨p, 0, none⟩), .int .i64 i] c [setI p D, tabA]
 fun v L => ∃ j : Nat, v = .tuple #[.int .i64 j, .bool true] ∧ L = [setI p D, tabA] ∧ j ∈ D ∧ j < 64 ∧ ∀ k ∈ D, (j + 64 - i) % 64 ≤ (k + 64 - i) % 64 := by
 have hlen : D.length ≠ 0 := by simpa using hD
 refine ct_fn (args := [.pointer (some ⟨p, 0, none⟩), .int .i64 i]) [(0, .pointer (some ⟨p, 0, none⟩)), (1, .int .i64 i)] Tryz.func300 rfl Tryz.ntmps300 rfl ⟨rfl, rfl, trivial⟩ ?_
 refine cd_open (α := Unit) (p := fun _ => ∀ k ∈ D, k < 64) (L' := fun _ => [setI p D, tabA]) (fun w h => ?_) ?_
 ·obtain ⟨x, hx, _⟩ := setI_open w h
  exact ⟨(), hx.le, h⟩
 rintro ⟨⟩ hle
 refine cd_seq ?_
 refine cd_region [0, 0] ?_
 refine op_y (y_assign rfl) rfl ?_
 refine op_y (y_assign rfl) rfl ?_
 refine op_nil ?_
 refine ent_then ?_
 refine cd_seq ?_
 refine cd_seq ?_
 refine cd_region [0, 2, 0] ?_
 refine op_y (y_move rfl) rfl ?_
 apply op_c Ffs.ca_298 rfl rfl (fun e he_ => fLen_ct e p D)
 ·exact sx
 rintro _ _ ⟨rfl, rfl⟩ G_ hG_
 simp only [zn] at hG_; subst hG_
 first | refine op_y (y_eq rfl rfl (eqT (by omega))) rfl ?_ | refine op_y (y_eq rfl rfl (eqF (by omega))) rfl ?_ | refine op_y (y_eq rfl rfl rfl) rfl ?_
 refine op_nil ?_
 refine ent_then ?_
 refine cd_iff rfl ?_
 apply cd_openR (A := setI p D)
 ·exact rm
 ·exact setI_open
 rintro ⟨W, lb, cap, b, r⟩ hb
 simp only [] at hb ⊢
 refine cd_skip ?_
 refine ent_then ?_
 refine cd_seq ?_
 refine cd_region [0, 0, 0, 1, 0, 0, 0] ?_
 refine op_y (y_move rfl) rfl ?_
 first | refine op_y (y_nil rfl) rfl ?_ | refine op_y (y_nili rfl) rfl ?_ | refine op_y (y_nilf rfl) rfl ?_
 first | refine op_y (y_fld0 Ffs.fo_405_0 rfl) rfl ?_ | refine op_y (y_flda Ffs.fo_405_0 rfl) rfl ?_
 apply op_ld Ffs.sc_403 rfl rfl
 ·exact rm
 ·rfl
 refine op_y (y_len Ffs.un_403 rfl) rfl ?_
 first | refine op_y (y_sub rfl rfl (wi64 (by omega) (by omega))) rfl ?_ | refine op_y (y_sub rfl rfl rfl) rfl ?_
 refine op_y (y_assign rfl) rfl ?_
 refine op_nil ?_
 refine ent_then ?_
 refine cd_to (L' := [setI p D, tabA]) (fun w h => setI_shut hb (lb := lb) (cap := cap) (b := b) (r := r) ?_) ?_
 ·apply Sat.only (h := h)
  exact sx
 refine cd_seq ?_
 refine cd_seq ?_
 refine cd_region [0, 0, 0, 0, 2, 0] ?_
 refine op_y (y_move rfl) rfl ?_
 refine op_y (y_move rfl) rfl ?_
 refine op_y (y_move rfl) rfl ?_
 refine op_y (y_max (r := (i : Int)) rfl rfl (by omega)) rfl ?_
 apply op_c Ffs.ca_308 rfl rfl (fun e he_ => fAbove_ct e p i D hi)
 ·exact sx
 rintro _ _ ⟨r, rfl, rfl, hr⟩ G_ hG_
 simp only [zn] at hG_; subst hG_
 rcases hr with ⟨j, rfl, h1, h2, h3⟩ | ⟨rfl, hn⟩
 ·skip
  have hj := hle j h1
  refine op_y (y_assign rfl) rfl ?_
  refine op_nil ?_
  refine ent_then ?_
  refine cd_seq ?_
  refine cd_region [0, 0] ?_
  refine op_y (y_move rfl) rfl ?_
  first | refine op_y (y_ge rfl rfl (decide_eq_true (by omega))) rfl ?_ | refine op_y (y_ge rfl rfl (decide_eq_false (by omega))) rfl ?_ | refine op_y (y_ge rfl rfl rfl) rfl ?_
  refine op_nil ?_
  refine ent_then ?_
  refine cd_ift rfl ?_
  refine cd_seq ?_
  refine cd_region [0, 0, 0] ?_
  refine op_y (y_move rfl) rfl ?_
  refine op_y (y_assign rfl) rfl ?_
  refine op_y (y_assign rfl) rfl ?_
  refine op_nil ?_
  refine ent_then ?_
  refine cd_ret ?_
  refine ent_thn_ret ?_
  refine ent_ret2 rfl rfl rfl ⟨_, ⟨j, rfl, rfl, h1, hj, fun k hk => ?_⟩, fun w h => h⟩
  have := hle k hk
  by_cases hki : i ≤ k
  ·have := h3 k hk hki
   omega
  ·omega
 ·skip
  refine op_y (y_assign rfl) rfl ?_
  refine op_nil ?_
  refine ent_then ?_
  refine cd_seq ?_
  refine cd_region [0, 0] ?_
  refine op_y (y_move rfl) rfl ?_
  first | refine op_y (y_ge rfl rfl (decide_eq_true (by omega))) rfl ?_ | refine op_y (y_ge rfl rfl (decide_eq_false (by omega))) rfl ?_ | refine op_y (y_ge rfl rfl rfl) rfl ?_
  refine op_nil ?_
  refine ent_then ?_
  refine cd_iff rfl ?_
  refine cd_skip ?_
  refine ent_then ?_
  refine cd_seq ?_
  refine cd_region [0, 0, 2, 0, 0] ?_
  refine op_y (y_move rfl) rfl ?_
  refine op_y (y_move rfl) rfl ?_
  apply op_c Ffs.ca_308 rfl rfl (fun e he_ => fAbove_ct e p 0 D (by decide))
  ·exact sx
  rintro _ _ ⟨r, rfl, rfl, hr⟩ G_ hG_
  simp only [zn] at hG_; subst hG_
  rcases hr with ⟨j, rfl, h1, h2, h3⟩ | ⟨rfl, hn2⟩
  ·have hj := hle j h1
   refine op_y (y_assign rfl) rfl ?_
   refine op_y (y_assign rfl) rfl ?_
   refine op_nil ?_
   refine ent_then ?_
   refine cd_ret ?_
   refine ent_ret2 rfl rfl rfl ⟨_, ⟨j, rfl, rfl, h1, hj, fun k hk => ?_⟩, fun w h => h⟩
   have := h3 k hk (by omega)
   have := hn k hk
   have := hn j h1
   omega
  ·exfalso
   cases D with
   | nil => exact hD rfl
   | cons a t => exact absurd (hn2 a (by simp)) (by omega)

theorem fPut_ct (c : Cx) (p i : Nat) (D : List Nat) (hi : i < 64) (hDl : D.length ≤ 64) : Ct Tryz.prog 306 #[.pointer (some ⟨p, 0, none⟩), .int .i64 i] c [setI p D]
 fun v L => (i ∈ D ∧ v = .bool false ∧ L = [setI p D]) ∨ (i ∉ D ∧ v = .bool true ∧ L = [setI p (i :: D)]) := by
 refine ct_fn (args := [.pointer (some ⟨p, 0, none⟩), .int .i64 i]) [(0, .pointer (some ⟨p, 0, none⟩)), (1, .int .i64 i)] Tryz.func306 rfl Tryz.ntmps306 rfl ⟨rfl, rfl, trivial⟩ ?_
 refine cd_seq ?_
 refine cd_region [0] ?_
 refine op_y (y_assign rfl) rfl ?_
 refine op_nil ?_
 refine ent_then ?_
 refine cd_seq ?_
 refine cd_seq ?_
 refine cd_region [0, 0, 0, 0, 0, 2, 0, 0, 0, 0, 0, 2, 0] ?_
 refine op_y (y_move rfl) rfl ?_
 first | refine op_y (y_lt rfl rfl (decide_eq_true (by omega))) rfl ?_ | refine op_y (y_lt rfl rfl (decide_eq_false (by omega))) rfl ?_ | refine op_y (y_lt rfl rfl rfl) rfl ?_
 refine op_y (y_move rfl) rfl ?_
 first
  | refine op_s1 rfl rfl ⟨rfl, rfl⟩ ?_
  | refine op_s2 rfl rfl ⟨rfl, rfl⟩ ?_
  | (refine op_g rfl rfl ?_
     refine op_y (y_move rfl) rfl ?_)
 first
  | refine op_s1 rfl rfl ⟨rfl, rfl⟩ ?_
  | refine op_s2 rfl rfl ⟨rfl, rfl⟩ ?_
  | (refine op_g rfl rfl ?_
     refine op_y (y_move rfl) rfl ?_)
 refine op_g rfl rfl ?_
 apply op_c Ffs.ca_191 rfl rfl (fun e he_ => fSize_ct e p D)
 ·exact sx
 rintro _ _ ⟨rfl, rfl⟩ G_ hG_
 simp only [zn] at hG_; subst hG_
 first
  | refine op_s1 rfl rfl ⟨rfl, rfl⟩ ?_
  | refine op_s2 rfl rfl ⟨rfl, rfl⟩ ?_
  | (refine op_g rfl rfl ?_
     first | refine op_y (y_ge rfl rfl (decide_eq_true (by omega))) rfl ?_ | refine op_y (y_ge rfl rfl (decide_eq_false (by omega))) rfl ?_ | refine op_y (y_ge rfl rfl rfl) rfl ?_)
 first | refine op_y (y_pickt rfl rfl) rfl ?_ | refine op_y (y_pickf rfl rfl) rfl ?_ | refine op_y (y_pick rfl rfl rfl) rfl ?_
 refine op_y (y_move rfl) rfl ?_
 first
  | refine op_s1 rfl rfl ⟨rfl, rfl⟩ ?_
  | refine op_s2 rfl rfl ⟨rfl, rfl⟩ ?_
  | (refine op_g rfl rfl ?_
     refine op_y (y_move rfl) rfl ?_)
 first
  | refine op_s1 rfl rfl ⟨rfl, rfl⟩ ?_
  | refine op_s2 rfl rfl ⟨rfl, rfl⟩ ?_
  | (refine op_g rfl rfl ?_
     refine op_y (y_move rfl) rfl ?_)
 refine op_g rfl rfl ?_
 apply op_c Ffs.ca_303 rfl rfl (fun e he_ => fHas_ct e p i D hi)
 ·exact sx
 rintro _ _ ⟨rfl, rfl⟩ G_ hG_
 simp only [zn] at hG_; subst hG_
 by_cases hm : i ∈ D
 ·simp only [hm, decide_true]
  skip
  first | refine op_y (y_pickt rfl rfl) rfl ?_ | refine op_y (y_pickf rfl rfl) rfl ?_ | refine op_y (y_pick rfl rfl rfl) rfl ?_
  refine op_nil ?_
  refine ent_then ?_
  refine cd_ift rfl ?_
  refine cd_seq ?_
  refine cd_region [0] ?_
  refine op_y (y_assign rfl) rfl ?_
  refine op_nil ?_
  refine ent_then ?_
  refine cd_ret ?_
  refine ent_thn_ret ?_
  refine ent_ret1 rfl rfl ⟨_, .inl ⟨trivial, rfl, rfl⟩, fun w h => h⟩
 ·simp only [hm, decide_false]
  skip
  first | refine op_y (y_pickt rfl rfl) rfl ?_ | refine op_y (y_pickf rfl rfl) rfl ?_ | refine op_y (y_pick rfl rfl rfl) rfl ?_
  refine op_nil ?_
  refine ent_then ?_
  refine cd_iff rfl ?_
  refine cd_open setI_open ?_
  rintro ⟨W, lb, cap, b, r⟩ hb
  simp only [] at hb ⊢
  have hW := hb.lt
  refine cd_skip ?_
  refine ent_then ?_
  refine cd_seq ?_
  refine cd_region [0, 0, 0, 1, 0, 0, 0, 2] ?_
  refine op_y (y_move rfl) rfl ?_
  first | refine op_y (y_nil rfl) rfl ?_ | refine op_y (y_nili rfl) rfl ?_ | refine op_y (y_nilf rfl) rfl ?_
  first | refine op_y (y_fld Ffs.fo_405_1 rfl) rfl ?_ | refine op_y (y_flda Ffs.fo_405_1 rfl) rfl ?_
  apply op_ld Ffs.sc_3 rfl rfl
  ·exact rm
  ·rfl
  first | refine op_y (y_add rfl rfl (wi64 (by omega) (by omega))) rfl ?_ | refine op_y (y_add rfl rfl rfl) rfl ?_
  first | refine op_y (y_nil rfl) rfl ?_ | refine op_y (y_nili rfl) rfl ?_ | refine op_y (y_nilf rfl) rfl ?_
  first | refine op_y (y_fld Ffs.fo_405_1 rfl) rfl ?_ | refine op_y (y_flda Ffs.fo_405_1 rfl) rfl ?_
  apply op_st1 Ffs.sz_3 rfl rfl rfl
  ·exact rm
  ·rfl
  ·(first | ((try simp only [zz, splice, Nat.reduceAdd, Nat.zero_mul, Nat.zero]) <;> rfl) | rfl)
  refine op_nil ?_
  refine ent_then ?_
  refine cd_seq ?_
  refine cd_seq ?_
  refine cd_region [0, 0, 0, 1, 0, 0, 0] ?_
  refine op_y (y_move rfl) rfl ?_
  first | refine op_y (y_nil rfl) rfl ?_ | refine op_y (y_nili rfl) rfl ?_ | refine op_y (y_nilf rfl) rfl ?_
  first | refine op_y (y_fld0 Ffs.fo_405_0 rfl) rfl ?_ | refine op_y (y_flda Ffs.fo_405_0 rfl) rfl ?_
  apply op_ld Ffs.sc_403 rfl rfl
  ·exact rm
  ·rfl
  refine op_y (y_len Ffs.un_403 rfl) rfl ?_
  first | refine op_y (y_sub rfl rfl (wi64 (by omega) (by omega))) rfl ?_ | refine op_y (y_sub rfl rfl rfl) rfl ?_
  refine op_y (y_assign rfl) rfl ?_
  refine op_nil ?_
  refine ent_then ?_
  refine cd_block ?_
  refine cd_rounds 1 ?_
  refine cd_seq ?_
  refine cd_seq ?_
  refine cd_region [0, 0] ?_
  refine op_y (y_move rfl) rfl ?_
  first | refine op_y (y_ge rfl rfl (decide_eq_true (by omega))) rfl ?_ | refine op_y (y_ge rfl rfl (decide_eq_false (by omega))) rfl ?_ | refine op_y (y_ge rfl rfl rfl) rfl ?_
  refine op_nil ?_
  refine ent_then ?_
  refine cd_ift rfl ?_
  refine cd_skip ?_
  refine ent_then ?_
  refine cd_seq ?_
  refine cd_block ?_
  refine cd_seq ?_
  refine cd_draw ([]) [0, 1, 2, 3, 4, 5, 6, 7, 8, 9, 10, 11, 12, 13, 14, 15, 16] [0, 0, 0, 1, 0, 0, 1, 0, 0, 0, 1, 0, 0, 0, 0, 0, 2] mixed_ (by kernel_rfl) ?_
  refine op_y (y_move rfl) rfl ?_
  first | refine op_y (y_nil rfl) rfl ?_ | refine op_y (y_nili rfl) rfl ?_ | refine op_y (y_nilf rfl) rfl ?_
  first | refine op_y (y_fld0 Ffs.fo_405_0 rfl) rfl ?_ | refine op_y (y_flda Ffs.fo_405_0 rfl) rfl ?_
  apply op_ld Ffs.sc_403 rfl rfl
  ·exact rm
  ·rfl
  refine op_y (y_move rfl) rfl ?_
  first | refine op_y (y_ix0 (j := 0) Ffs.sl_403 rfl rfl (by omega) (by omega)) rfl ?_ | refine op_y (y_ix (j := 0) Ffs.sl_403 rfl rfl (by omega) (by omega)) rfl ?_ | refine op_y (y_ixa (j := 0) Ffs.sl_403 rfl rfl (by omega) (by omega)) rfl ?_
  apply op_ld Ffs.sc_264 rfl rfl
  ·exact rm
  ·rfl
  refine op_y (y_move rfl) rfl ?_
  first | refine op_y (y_quon rfl rfl (by omega) (by omega) (wi64 (by omega) (by omega))) rfl ?_ | refine op_y (y_quo rfl rfl (by omega) rfl) rfl ?_
  first | refine op_y (y_ix0 (j := 0) Ffs.sl_264 rfl rfl (by omega) (by omega)) rfl ?_ | refine op_y (y_ix (j := 0) Ffs.sl_264 rfl rfl (by omega) (by omega)) rfl ?_ | refine op_y (y_ixa (j := 0) Ffs.sl_264 rfl rfl (by omega) (by omega)) rfl ?_
  apply op_ld Ffs.sc_22 rfl rfl
  ·exact rm
  ·rfl
  refine op_y (y_move rfl) rfl ?_
  first | refine op_y (y_remn rfl rfl (by omega) (by omega)) rfl ?_ | refine op_y (y_rem rfl rfl (by omega) rfl) rfl ?_
  refine op_y (y_shlN (a := 1) (b := i) rfl rfl rfl rfl (by omega) (by show _ ≤ 64; omega)) rfl ?_
  refine op_y (y_orN (a := W) (b := (1 <<< i) % 2 ^ 64) rfl rfl rfl rfl rfl hW (Nat.mod_lt _ (by decide))) rfl ?_
  first | refine op_y (y_ix0 (j := 0) Ffs.sl_264 rfl rfl (by omega) (by omega)) rfl ?_ | refine op_y (y_ix (j := 0) Ffs.sl_264 rfl rfl (by omega) (by omega)) rfl ?_ | refine op_y (y_ixa (j := 0) Ffs.sl_264 rfl rfl (by omega) (by omega)) rfl ?_
  apply op_st1 Ffs.sz_22 rfl rfl rfl
  ·exact rm
  ·rfl
  ·(first | ((try simp only [zz, splice, Nat.reduceAdd, Nat.zero_mul, Nat.zero]) <;> rfl) | rfl)
  refine op_nil ?_
  refine ent_then ?_
  refine cd_region [0, 0, 0] ?_
  refine op_y (y_move rfl) rfl ?_
  first | refine op_y (y_quon rfl rfl (by omega) (by omega) (wi64 (by omega) (by omega))) rfl ?_ | refine op_y (y_quo rfl rfl (by omega) rfl) rfl ?_
  refine op_y (y_assign rfl) rfl ?_
  refine op_nil ?_
  refine ent_block ?_
  refine ent_then ?_
  refine cd_region [0, 0, 0] ?_
  refine op_y (y_move rfl) rfl ?_
  first | refine op_y (y_sub rfl rfl (wi64 (by omega) (by omega))) rfl ?_ | refine op_y (y_sub rfl rfl rfl) rfl ?_
  refine op_y (y_assign rfl) rfl ?_
  refine op_nil ?_
  refine ent_round ?_
  refine cd_seq ?_
  refine cd_seq ?_
  refine cd_region [0, 0] ?_
  refine op_y (y_move rfl) rfl ?_
  first | refine op_y (y_ge rfl rfl (decide_eq_true (by omega))) rfl ?_ | refine op_y (y_ge rfl rfl (decide_eq_false (by omega))) rfl ?_ | refine op_y (y_ge rfl rfl rfl) rfl ?_
  refine op_nil ?_
  refine ent_then ?_
  refine cd_iff rfl ?_
  refine cd_exit ?_
  refine ent_thn_exit ?_
  refine ent_then_exit ?_
  refine ent_block_exit ?_
  refine ent_then ?_
  refine cd_seq ?_
  refine cd_region [0] ?_
  refine op_y (y_assign rfl) rfl ?_
  refine op_nil ?_
  refine ent_then ?_
  refine cd_ret ?_
  refine ent_ret1 rfl rfl ⟨_, .inr ⟨id, rfl, rfl⟩, fun w h => setI_shut (hb.put hi hm) (lb := lb) (cap := cap) (b := b) (r := r) ?_⟩
  simp only [fcs, List.length_cons]
  rw [show ((D.length + 1 : Nat) : Int) = (D.length : Int) + 1 from rfl]
  apply Sat.only (h := h)
  exact sx
end Go.Proofs.YtfkadaodnaaceaaGreatDoor
/- Plain law: a binary heap of entries, told apart by rank and by when they came, keeps a sorted list. No program in sight. -/
namespace Go.Proofs.YtfkadaodnaaceaaGreatDoor
open Go Go.SL

structure Pk where
 flow : Nat
 id : Nat
 len : Nat
 deriving DecidableEq, Inhabited
structure En where
 rank : Nat
 came : Nat
 pk : Pk
 deriving DecidableEq, Inhabited

def En.lt (a b : En) : Prop := a.rank < b.rank ∨ a.rank = b.rank ∧ a.came < b.came
instance (a b : En) : Decidable (a.lt b) := inferInstanceAs (Decidable (_ ∨ _))
def En.le (a b : En) : Prop := ¬ b.lt a
theorem En.le_trans {a b c : En} (h : a.le b) (k : b.le c) : a.le c := by unfold En.le En.lt at *; omega
theorem En.le_refl (a : En) : a.le a := by unfold En.le En.lt; omega
theorem En.lt_le {a b : En} (h : a.lt b) : a.le b := by unfold En.le En.lt at *; omega
theorem En.lt_trans {a b c : En} (h : a.lt b) (k : b.lt c) : a.lt c := by unfold En.lt at *; omega
theorem En.lt_irrefl (a : En) : ¬ a.lt a := by unfold En.lt; omega
theorem En.lt_of_lt_le {a b c : En} (h : a.lt b) (k : b.le c) : a.lt c := by unfold En.le En.lt at *; omega

def gt (es : List En) (i : Nat) : En := es.getD i default
theorem gt_of {es : List En} {i : Nat} {e : En} (h : es[i]? = some e) : gt es i = e := by simp [gt, List.getD, h]
theorem get_gt {es : List En} {i : Nat} (h : i < es.length) : es[i]? = some (gt es i) := by simp [gt, List.getD, h]
def swp (es : List En) (i j : Nat) : List En := (es.set i (gt es j)).set j (gt es i)
theorem swp_length (es : List En) (i j : Nat) : (swp es i j).length = es.length := by simp [swp]
theorem gt_swp {es : List En} {i j : Nat} (hi : i < es.length) (hj : j < es.length) (k : Nat) : gt (swp es i j) k = if k = j then gt es i else if k = i then gt es j else gt es k := by
 unfold swp
 simp only [gt, List.getD, List.getElem?_set, List.length_set]
 by_cases h1 : k = j
 ·subst h1; simp [hj]
 ·by_cases h2 : k = i
  ·subst h2; simp [hi, h1, Ne.symm h1]
  ·simp [h1, h2, Ne.symm h1, Ne.symm h2]
theorem swp_perm {es : List En} {i j : Nat} (hi : i < es.length) (hj : j < es.length) : (swp es i j).Perm es := by
 rw [List.perm_iff_count]
 intro a
 unfold swp
 have e1 : es[i] = gt es i := by have := get_gt hi; rw [List.getElem?_eq_getElem hi] at this; injection this
 have e2 : es[j] = gt es j := by have := get_gt hj; rw [List.getElem?_eq_getElem hj] at this; injection this
 have c1 : 0 < List.count es[i] es := List.count_pos_iff.2 (List.getElem_mem hi)
 rw [List.count_set (by simpa using hj), List.count_set hi, List.getElem_set]
 by_cases h : i = j
 ·subst h
  simp only [if_true, e1]
  by_cases ha : gt es i = a
  ·subst ha; rw [e1] at c1; simp; omega
  ·simp [ha]
 ·rw [if_neg h, e1, e2]
  by_cases ha : gt es i = a
  ·by_cases hb : gt es j = a
   ·subst ha; rw [e1] at c1; simp [hb]; omega
   ·subst ha; rw [e1] at c1; simp [hb]; omega
  ·by_cases hb : gt es j = a
   ·simp [ha, hb]
   ·simp [ha, hb]

def HeapOK (es : List En) : Prop := ∀ k, 0 < k → k < es.length → (gt es ((k - 1) / 2)).le (gt es k)
/-- All is in order but what stands at i against the one above it. -/
def UpOK (es : List En) (i : Nat) : Prop := (∀ k, 0 < k → k < es.length → k ≠ i → (gt es ((k - 1) / 2)).le (gt es k)) ∧
 ∀ k, 0 < k → k < es.length → (k - 1) / 2 = i → 0 < i → (gt es ((i - 1) / 2)).le (gt es k)
theorem UpOK.done {es : List En} {i : Nat} (h : UpOK es i) (hi : i = 0 ∨ (gt es ((i - 1) / 2)).le (gt es i)) : HeapOK es := by
 intro k h0 hk
 by_cases e : k = i
 ·subst e
  rcases hi with rfl | hi
  ·omega
  ·exact hi
 ·exact h.1 k h0 hk e
theorem UpOK.step {es : List En} {i : Nat} (h : UpOK es i) (h0 : 0 < i) (hi : i < es.length) (hlt : (gt es i).lt (gt es ((i - 1) / 2))) : UpOK (swp es i ((i - 1) / 2)) ((i - 1) / 2) := by
 have ho : (i - 1) / 2 < es.length := by omega
 have hne : (i - 1) / 2 < i := by omega
 refine ⟨fun k k0 hk hko => ?_, fun k k0 hk hkp ho0 => ?_⟩
 ·rw [swp_length] at hk
  rw [gt_swp hi ho, gt_swp hi ho, if_neg hko]
  by_cases e : k = i
  ·subst e
   rw [if_pos rfl, if_pos rfl]; exact En.lt_le hlt
  ·rw [if_neg e]
   by_cases e1 : (k - 1) / 2 = (i - 1) / 2
   ·rw [if_pos e1]
    exact En.le_trans (En.lt_le hlt) (e1 ▸ h.1 k k0 hk e)
   ·rw [if_neg e1]
    by_cases e2 : (k - 1) / 2 = i
    ·rw [if_pos e2]; exact h.2 k k0 hk e2 h0
    ·rw [if_neg e2]; exact h.1 k k0 hk e
 ·rw [swp_length] at hk
  rw [gt_swp hi ho, gt_swp hi ho]
  have n1 : ((i - 1) / 2 - 1) / 2 ≠ (i - 1) / 2 := by omega
  have n2 : ((i - 1) / 2 - 1) / 2 ≠ i := by omega
  rw [if_neg n1, if_neg n2]
  have hup := h.1 ((i - 1) / 2) ho0 ho (by omega)
  by_cases e : k = i
  ·have : k ≠ (i - 1) / 2 := by omega
   rw [if_neg this, if_pos e]; exact hup
  ·have : k ≠ (i - 1) / 2 := by omega
   rw [if_neg this, if_neg e]
   exact En.le_trans hup (hkp ▸ h.1 k k0 hk e)
/-- All is in order but what stands at i against those below it. -/
def DnOK (es : List En) (i : Nat) : Prop := (∀ k, 0 < k → k < es.length → (k - 1) / 2 ≠ i → (gt es ((k - 1) / 2)).le (gt es k)) ∧
 ∀ k, 0 < k → k < es.length → (k - 1) / 2 = i → 0 < i → (gt es ((i - 1) / 2)).le (gt es k)
theorem DnOK.done {es : List En} {i : Nat} (h : DnOK es i) (hi : ∀ k, 0 < k → k < es.length → (k - 1) / 2 = i → (gt es i).le (gt es k)) : HeapOK es := by
 intro k h0 hk
 by_cases e : (k - 1) / 2 = i
 ·rw [e]; exact hi k h0 hk e
 ·exact h.1 k h0 hk e
theorem DnOK.step {es : List En} {i u : Nat} (h : DnOK es i) (hu0 : 0 < u) (hu : u < es.length) (hup : (u - 1) / 2 = i) (hmin : ∀ k, 0 < k → k < es.length → (k - 1) / 2 = i → (gt es u).le (gt es k)) (hlt : (gt es u).lt (gt es i)) :
 DnOK (swp es i u) u := by
 have hi : i < es.length := by omega
 refine ⟨fun k k0 hk hkp => ?_, fun k k0 hk hkp _ => ?_⟩
 ·rw [swp_length] at hk
  rw [gt_swp hi hu, gt_swp hi hu, if_neg hkp]
  by_cases e : k = u
  ·subst e
   rw [if_pos rfl, hup, if_pos rfl]; exact En.lt_le hlt
  ·rw [if_neg e]
   by_cases e1 : (k - 1) / 2 = i
   ·have : k ≠ i := by omega
    rw [if_pos e1, if_neg this]; exact hmin k k0 hk e1
   ·rw [if_neg e1]
    by_cases e2 : k = i
    ·rw [if_pos e2]; subst e2; exact h.2 u hu0 hu hup k0
    ·rw [if_neg e2]; exact h.1 k k0 hk e1
 ·rw [swp_length] at hk
  rw [gt_swp hi hu, gt_swp hi hu]
  have a1 : (u - 1) / 2 ≠ u := by omega
  have a2 : k ≠ u := by omega
  have a3 : k ≠ i := by omega
  rw [if_neg a1, if_pos hup, if_neg a2, if_neg a3]
  exact hkp ▸ h.1 k k0 hk (by omega)

theorem HeapOK.least {es : List En} (h : HeapOK es) : ∀ k, k < es.length → (gt es 0).le (gt es k) := by
 intro k
 induction k using Nat.strongRecOn with
 | _ k ih =>
  intro hk
  by_cases h0 : k = 0
  ·subst h0; exact En.le_refl _
  ·exact En.le_trans (ih ((k - 1) / 2) (by omega) (by omega)) (h k (by omega) hk)

/-- A list in order. -/
def Srt (L : List En) : Prop := L.Pairwise En.lt
def ins (e : En) : List En → List En
 | [] => [e]
 | x :: xs => if e.lt x then e :: x :: xs else x :: ins e xs
theorem ins_perm (e : En) (L : List En) : (ins e L).Perm (e :: L) := by
 induction L with
 | nil => exact .refl _
 | cons x xs ih =>
  unfold ins
  split
  ·exact .refl _
  ·exact (ih.cons x).trans (.swap ..)
theorem ins_srt {e : En} {L : List En} (h : Srt L) (hn : ∀ x ∈ L, x.came < e.came) : Srt (ins e L) := by
 unfold Srt at *
 induction L with
 | nil => exact List.pairwise_singleton _ _
 | cons x xs ih =>
  obtain ⟨hx, hxs⟩ := List.pairwise_cons.1 h
  unfold ins
  split
  ·rename_i hlt
   refine List.pairwise_cons.2 ⟨fun y hy => ?_, h⟩
   rcases List.mem_cons.1 hy with rfl | hy
   ·exact hlt
   ·exact En.lt_trans hlt (hx y hy)
  ·rename_i hlt
   refine List.pairwise_cons.2 ⟨fun y hy => ?_, ih hxs fun y hy => hn y (by simp [hy])⟩
   rcases List.mem_cons.1 ((ins_perm e xs).mem_iff.1 hy) with rfl | hy
   ·have := hn x (by simp)
    unfold En.lt at *; omega
   ·exact hx y hy
theorem head_of {es L : List En} (h : HeapOK es) (hp : es.Perm L) (hs : Srt L) {e : En} {r : List En} (hL : L = e :: r) : gt es 0 = e := by
 subst hL
 have hl : 0 < es.length := by rw [hp.length_eq]; simp
 have hm : gt es 0 ∈ e :: r := hp.mem_iff.1 (List.mem_of_getElem? (get_gt hl))
 have he : e ∈ es := hp.mem_iff.2 (by simp)
 obtain ⟨k, hk, hke⟩ := List.mem_iff_getElem.1 he
 have hle := h.least k hk
 have : gt es k = e := gt_of (by rw [List.getElem?_eq_getElem hk, hke])
 rw [this] at hle
 rcases List.mem_cons.1 hm with h1 | h1
 ·exact h1
 ·exact absurd ((List.pairwise_cons.1 hs).1 _ h1) hle
/-- The last one in the first one's place. -/
def popd (es : List En) (n : Nat) : List En := (es.set 0 (gt es n)).take n
theorem popd_length {es : List En} {n : Nat} (h : es.length = n + 1) : (popd es n).length = n := by simp [popd, h]
theorem gt_popd {es : List En} {n k : Nat} (h : es.length = n + 1) (h0 : 0 < k) (hk : k < n) : gt (popd es n) k = gt es k := by
 have : k ≠ 0 := by omega
 simp [gt, popd, List.getD, hk, List.getElem?_take, List.getElem?_set, show (0 = k) = False by simp; omega]
theorem popd_dn {es : List En} {n : Nat} (h : es.length = n + 1) (hok : HeapOK es) : DnOK (popd es n) 0 := by
 refine ⟨fun k k0 hk hp => ?_, fun k _ _ _ h0 => absurd h0 (by omega)⟩
 rw [popd_length h] at hk
 rw [gt_popd h k0 hk, gt_popd h (by omega) (by omega)]
 exact hok k k0 (by omega)
theorem popd_perm {es : List En} {n : Nat} (h : es.length = n + 1) : es.Perm (gt es 0 :: popd es n) := by
 cases es with
 | nil => simp at h
 | cons a t =>
  cases n with
  | zero =>
   have : t = [] := by simpa using h
   subst this
   exact .refl _
  | succ m =>
   have ht : t.length = m + 1 := by simpa using h
   have e1 : popd (a :: t) (m + 1) = gt (a :: t) (m + 1) :: t.take m := by simp [popd]
   have e2 : t = t.take m ++ [gt (a :: t) (m + 1)] := by
    have hg : gt (a :: t) (m + 1) = t[m]'(by omega) := by simp [gt, List.getD, ht]
    rw [hg]
    conv => lhs; rw [← List.take_append_drop m t]
    congr 1
    rw [List.drop_eq_getElem_cons (by omega), List.drop_eq_nil_of_le (by omega)]
   have e3 : gt (a :: t) 0 = a := rfl
   rw [e1, e3]
   refine List.Perm.cons _ ?_
   conv => lhs; rw [e2]
   exact List.perm_append_comm
end Go.Proofs.YtfkadaodnaaceaaGreatDoor
/- The heap's functions: what each does to a heap that holds a list in order. -/
namespace Go.Proofs.YtfkadaodnaaceaaGreatDoor
open Go Go.SL
theorem Heap.ag_459 : aggK Tryz.prog 459 = some 5 := by kernel_rfl
theorem Heap.ca_279 : callable Tryz.prog 279 = true := by kernel_rfl
theorem Heap.fo_353_0 : fieldOff Tryz.prog 353 0 = some 0 := by kernel_rfl
theorem Heap.fo_459_0 : fieldOff Tryz.prog 459 0 = some 0 := by kernel_rfl
theorem Heap.fo_459_1 : fieldOff Tryz.prog 459 1 = some 1 := by kernel_rfl
theorem Heap.sc_22 : scalarT Tryz.prog 22 = true := by kernel_rfl
theorem Heap.sc_351 : scalarT Tryz.prog 351 = true := by kernel_rfl
theorem Heap.sl_351 : sliceK Tryz.prog 351 = some (459, 5, 32) := by kernel_rfl
theorem Heap.sz_459 : sizeK Tryz.prog 459 = some 5 := by kernel_rfl
theorem Heap.un_351 : Tryz.prog.underlying 351 = some (.slice 459) := by kernel_rfl
set_option maxRecDepth 100000
set_option maxHeartbeats 1000000
abbrev Pk.cs (p : Pk) : List Value := [.int .u32 p.flow, .int .u32 p.id, .int .u64 p.len]
abbrev En.cs (e : En) : List Value := [.int .u64 e.rank, .int .u64 e.came, .int .u32 e.pk.flow, .int .u32 e.pk.id, .int .u64 e.pk.len]
theorem En.cs5 (e : En) : (En.cs e).length = 5 := rfl
abbrev hcs (A : Option Addr) (n cap : Nat) (v1 v2 : Value) : List Value := [.slice A n cap, v1, v2]

theorem ahead_ct (c : Cx) (a b : En) : Ct Tryz.prog 279 #[.agg (En.cs a).toArray, .agg (En.cs b).toArray] c [] fun v L => v = .bool (decide (a.lt b)) ∧ L = [] := by
 obtain ⟨r1, k1, f1, i1, l1⟩ := a
 obtain ⟨r2, k2, f2, i2, l2⟩ := b
 unfold En.lt En.cs
 simp only []
 rcases Nat.lt_trichotomy r1 r2 with h | h | h
 ·refine ct_fn (args := [.agg #[.int .u64 r1, .int .u64 k1, .int .u32 f1, .int .u32 i1, .int .u64 l1], .agg #[.int .u64 r2, .int .u64 k2, .int .u32 f2, .int .u32 i2, .int .u64 l2]]) [(0, .agg #[.int .u64 r1, .int .u64 k1, .int .u32 f1, .int .u32 i1, .int .u64 l1]), (1, .agg #[.int .u64 r2, .int .u64 k2, .int .u32 f2, .int .u32 i2, .int .u64 l2])] Tryz.func279 rfl Tryz.ntmps279 rfl ⟨rfl, rfl, trivial⟩ ?_
  refine cd_seq ?_
  refine cd_region [2, 2, 0] ?_
  refine op_boxa rfl rfl fun b2 => ?_
  refine op_boxa rfl rfl fun b3 => ?_
  refine op_y (y_assign rfl) rfl ?_
  refine op_nil ?_
  refine ent_then ?_
  refine cd_seq ?_
  refine cd_region [0, 1, 0, 1, 0, 0, 0, 1, 0, 1, 0, 0, 0, 1, 0, 1, 0, 0, 0, 0] ?_
  first | refine op_y (y_fld0 Heap.fo_459_0 rfl) rfl ?_ | refine op_y (y_flda Heap.fo_459_0 rfl) rfl ?_
  apply op_ld Heap.sc_22 rfl rfl
  ·exact rm
  ·rfl
  first | refine op_y (y_fld0 Heap.fo_459_0 rfl) rfl ?_ | refine op_y (y_flda Heap.fo_459_0 rfl) rfl ?_
  apply op_ld Heap.sc_22 rfl rfl
  ·exact rm
  ·rfl
  first | refine op_y (y_lt rfl rfl (decide_eq_true (by omega))) rfl ?_ | refine op_y (y_lt rfl rfl (decide_eq_false (by omega))) rfl ?_ | refine op_y (y_lt rfl rfl rfl) rfl ?_
  refine op_y (y_move rfl) rfl ?_
  first
   | refine op_s1 rfl rfl ⟨rfl, rfl⟩ ?_
   | refine op_s2 rfl rfl ⟨rfl, rfl⟩ ?_
   | (refine op_g rfl rfl ?_
      first | refine op_y (y_fld0 Heap.fo_459_0 rfl) rfl ?_ | refine op_y (y_flda Heap.fo_459_0 rfl) rfl ?_)
  first
   | refine op_s1 rfl rfl ⟨rfl, rfl⟩ ?_
   | refine op_s2 rfl rfl ⟨rfl, rfl⟩ ?_
   | (refine op_g rfl rfl ?_
      apply op_ld Heap.sc_22 rfl rfl
      ·exact rm
      ·rfl)
  first
   | refine op_s1 rfl rfl ⟨rfl, rfl⟩ ?_
   | refine op_s2 rfl rfl ⟨rfl, rfl⟩ ?_
   | (refine op_g rfl rfl ?_
      first | refine op_y (y_fld0 Heap.fo_459_0 rfl) rfl ?_ | refine op_y (y_flda Heap.fo_459_0 rfl) rfl ?_)
  first
   | refine op_s1 rfl rfl ⟨rfl, rfl⟩ ?_
   | refine op_s2 rfl rfl ⟨rfl, rfl⟩ ?_
   | (refine op_g rfl rfl ?_
      apply op_ld Heap.sc_22 rfl rfl
      ·exact rm
      ·rfl)
  first
   | refine op_s1 rfl rfl ⟨rfl, rfl⟩ ?_
   | refine op_s2 rfl rfl ⟨rfl, rfl⟩ ?_
   | (refine op_g rfl rfl ?_
      first | refine op_y (y_eq rfl rfl (eqT (by omega))) rfl ?_ | refine op_y (y_eq rfl rfl (eqF (by omega))) rfl ?_ | refine op_y (y_eq rfl rfl rfl) rfl ?_)
  first
   | refine op_s1 rfl rfl ⟨rfl, rfl⟩ ?_
   | refine op_s2 rfl rfl ⟨rfl, rfl⟩ ?_
   | (refine op_g rfl rfl ?_
      refine op_y (y_move rfl) rfl ?_)
  first
   | refine op_s1 rfl rfl ⟨rfl, rfl⟩ ?_
   | refine op_s2 rfl rfl ⟨rfl, rfl⟩ ?_
   | (refine op_g rfl rfl ?_
      first | refine op_y (y_fld Heap.fo_459_1 rfl) rfl ?_ | refine op_y (y_flda Heap.fo_459_1 rfl) rfl ?_)
  first
   | refine op_s1 rfl rfl ⟨rfl, rfl⟩ ?_
   | refine op_s2 rfl rfl ⟨rfl, rfl⟩ ?_
   | (refine op_g rfl rfl ?_
      apply op_ld Heap.sc_22 rfl rfl
      ·exact rm
      ·rfl)
  first
   | refine op_s1 rfl rfl ⟨rfl, rfl⟩ ?_
   | refine op_s2 rfl rfl ⟨rfl, rfl⟩ ?_
   | (refine op_g rfl rfl ?_
      first | refine op_y (y_fld Heap.fo_459_1 rfl) rfl ?_ | refine op_y (y_flda Heap.fo_459_1 rfl) rfl ?_)
  first
   | refine op_s1 rfl rfl ⟨rfl, rfl⟩ ?_
   | refine op_s2 rfl rfl ⟨rfl, rfl⟩ ?_
   | (refine op_g rfl rfl ?_
      apply op_ld Heap.sc_22 rfl rfl
      ·exact rm
      ·rfl)
  first
   | refine op_s1 rfl rfl ⟨rfl, rfl⟩ ?_
   | refine op_s2 rfl rfl ⟨rfl, rfl⟩ ?_
   | (refine op_g rfl rfl ?_
      first | refine op_y (y_lt rfl rfl (decide_eq_true (by omega))) rfl ?_ | refine op_y (y_lt rfl rfl (decide_eq_false (by omega))) rfl ?_ | refine op_y (y_lt rfl rfl rfl) rfl ?_)
  first
   | refine op_s1 rfl rfl ⟨rfl, rfl⟩ ?_
   | refine op_s2 rfl rfl ⟨rfl, rfl⟩ ?_
   | (refine op_g rfl rfl ?_
      first | refine op_y (y_pickt rfl rfl) rfl ?_ | refine op_y (y_pickf rfl rfl) rfl ?_ | refine op_y (y_pick rfl rfl rfl) rfl ?_)
  first | refine op_y (y_pickt rfl rfl) rfl ?_ | refine op_y (y_pickf rfl rfl) rfl ?_ | refine op_y (y_pick rfl rfl rfl) rfl ?_
  refine op_y (y_assign rfl) rfl ?_
  refine op_nil ?_
  refine ent_then ?_
  refine cd_ret ?_
  refine ent_ret1 rfl rfl ⟨[], ⟨by simp [h], rfl⟩, fun w hs => hs.nil_of⟩
 ·refine ct_fn (args := [.agg #[.int .u64 r1, .int .u64 k1, .int .u32 f1, .int .u32 i1, .int .u64 l1], .agg #[.int .u64 r2, .int .u64 k2, .int .u32 f2, .int .u32 i2, .int .u64 l2]]) [(0, .agg #[.int .u64 r1, .int .u64 k1, .int .u32 f1, .int .u32 i1, .int .u64 l1]), (1, .agg #[.int .u64 r2, .int .u64 k2, .int .u32 f2, .int .u32 i2, .int .u64 l2])] Tryz.func279 rfl Tryz.ntmps279 rfl ⟨rfl, rfl, trivial⟩ ?_
  refine cd_seq ?_
  refine cd_region [2, 2, 0] ?_
  refine op_boxa rfl rfl fun b2 => ?_
  refine op_boxa rfl rfl fun b3 => ?_
  refine op_y (y_assign rfl) rfl ?_
  refine op_nil ?_
  refine ent_then ?_
  refine cd_seq ?_
  refine cd_region [0, 1, 0, 1, 0, 0, 0, 1, 0, 1, 0, 0, 0, 1, 0, 1, 0, 0, 0, 0] ?_
  first | refine op_y (y_fld0 Heap.fo_459_0 rfl) rfl ?_ | refine op_y (y_flda Heap.fo_459_0 rfl) rfl ?_
  apply op_ld Heap.sc_22 rfl rfl
  ·exact rm
  ·rfl
  first | refine op_y (y_fld0 Heap.fo_459_0 rfl) rfl ?_ | refine op_y (y_flda Heap.fo_459_0 rfl) rfl ?_
  apply op_ld Heap.sc_22 rfl rfl
  ·exact rm
  ·rfl
  first | refine op_y (y_lt rfl rfl (decide_eq_true (by omega))) rfl ?_ | refine op_y (y_lt rfl rfl (decide_eq_false (by omega))) rfl ?_ | refine op_y (y_lt rfl rfl rfl) rfl ?_
  refine op_y (y_move rfl) rfl ?_
  first
   | refine op_s1 rfl rfl ⟨rfl, rfl⟩ ?_
   | refine op_s2 rfl rfl ⟨rfl, rfl⟩ ?_
   | (refine op_g rfl rfl ?_
      first | refine op_y (y_fld0 Heap.fo_459_0 rfl) rfl ?_ | refine op_y (y_flda Heap.fo_459_0 rfl) rfl ?_)
  first
   | refine op_s1 rfl rfl ⟨rfl, rfl⟩ ?_
   | refine op_s2 rfl rfl ⟨rfl, rfl⟩ ?_
   | (refine op_g rfl rfl ?_
      apply op_ld Heap.sc_22 rfl rfl
      ·exact rm
      ·rfl)
  first
   | refine op_s1 rfl rfl ⟨rfl, rfl⟩ ?_
   | refine op_s2 rfl rfl ⟨rfl, rfl⟩ ?_
   | (refine op_g rfl rfl ?_
      first | refine op_y (y_fld0 Heap.fo_459_0 rfl) rfl ?_ | refine op_y (y_flda Heap.fo_459_0 rfl) rfl ?_)
  first
   | refine op_s1 rfl rfl ⟨rfl, rfl⟩ ?_
   | refine op_s2 rfl rfl ⟨rfl, rfl⟩ ?_
   | (refine op_g rfl rfl ?_
      apply op_ld Heap.sc_22 rfl rfl
      ·exact rm
      ·rfl)
  first
   | refine op_s1 rfl rfl ⟨rfl, rfl⟩ ?_
   | refine op_s2 rfl rfl ⟨rfl, rfl⟩ ?_
   | (refine op_g rfl rfl ?_
      first | refine op_y (y_eq rfl rfl (eqT (by omega))) rfl ?_ | refine op_y (y_eq rfl rfl (eqF (by omega))) rfl ?_ | refine op_y (y_eq rfl rfl rfl) rfl ?_)
  first
   | refine op_s1 rfl rfl ⟨rfl, rfl⟩ ?_
   | refine op_s2 rfl rfl ⟨rfl, rfl⟩ ?_
   | (refine op_g rfl rfl ?_
      refine op_y (y_move rfl) rfl ?_)
  first
   | refine op_s1 rfl rfl ⟨rfl, rfl⟩ ?_
   | refine op_s2 rfl rfl ⟨rfl, rfl⟩ ?_
   | (refine op_g rfl rfl ?_
      first | refine op_y (y_fld Heap.fo_459_1 rfl) rfl ?_ | refine op_y (y_flda Heap.fo_459_1 rfl) rfl ?_)
  first
   | refine op_s1 rfl rfl ⟨rfl, rfl⟩ ?_
   | refine op_s2 rfl rfl ⟨rfl, rfl⟩ ?_
   | (refine op_g rfl rfl ?_
      apply op_ld Heap.sc_22 rfl rfl
      ·exact rm
      ·rfl)
  first
   | refine op_s1 rfl rfl ⟨rfl, rfl⟩ ?_
   | refine op_s2 rfl rfl ⟨rfl, rfl⟩ ?_
   | (refine op_g rfl rfl ?_
      first | refine op_y (y_fld Heap.fo_459_1 rfl) rfl ?_ | refine op_y (y_flda Heap.fo_459_1 rfl) rfl ?_)
  first
   | refine op_s1 rfl rfl ⟨rfl, rfl⟩ ?_
   | refine op_s2 rfl rfl ⟨rfl, rfl⟩ ?_
   | (refine op_g rfl rfl ?_
      apply op_ld Heap.sc_22 rfl rfl
      ·exact rm
      ·rfl)
  first
   | refine op_s1 rfl rfl ⟨rfl, rfl⟩ ?_
   | refine op_s2 rfl rfl ⟨rfl, rfl⟩ ?_
   | (refine op_g rfl rfl ?_
      first | refine op_y (y_lt rfl rfl (decide_eq_true (by omega))) rfl ?_ | refine op_y (y_lt rfl rfl (decide_eq_false (by omega))) rfl ?_ | refine op_y (y_lt rfl rfl rfl) rfl ?_)
  first
   | refine op_s1 rfl rfl ⟨rfl, rfl⟩ ?_
   | refine op_s2 rfl rfl ⟨rfl, rfl⟩ ?_
   | (refine op_g rfl rfl ?_
      first | refine op_y (y_pickt rfl rfl) rfl ?_ | refine op_y (y_pickf rfl rfl) rfl ?_ | refine op_y (y_pick rfl rfl rfl) rfl ?_)
  first | refine op_y (y_pickt rfl rfl) rfl ?_ | refine op_y (y_pickf rfl rfl) rfl ?_ | refine op_y (y_pick rfl rfl rfl) rfl ?_
  refine op_y (y_assign rfl) rfl ?_
  refine op_nil ?_
  refine ent_then ?_
  refine cd_ret ?_
  refine ent_ret1 rfl rfl ⟨[], ⟨by simp [h], rfl⟩, fun w hs => hs.nil_of⟩
 ·refine ct_fn (args := [.agg #[.int .u64 r1, .int .u64 k1, .int .u32 f1, .int .u32 i1, .int .u64 l1], .agg #[.int .u64 r2, .int .u64 k2, .int .u32 f2, .int .u32 i2, .int .u64 l2]]) [(0, .agg #[.int .u64 r1, .int .u64 k1, .int .u32 f1, .int .u32 i1, .int .u64 l1]), (1, .agg #[.int .u64 r2, .int .u64 k2, .int .u32 f2, .int .u32 i2, .int .u64 l2])] Tryz.func279 rfl Tryz.ntmps279 rfl ⟨rfl, rfl, trivial⟩ ?_
  refine cd_seq ?_
  refine cd_region [2, 2, 0] ?_
  refine op_boxa rfl rfl fun b2 => ?_
  refine op_boxa rfl rfl fun b3 => ?_
  refine op_y (y_assign rfl) rfl ?_
  refine op_nil ?_
  refine ent_then ?_
  refine cd_seq ?_
  refine cd_region [0, 1, 0, 1, 0, 0, 0, 1, 0, 1, 0, 0, 0, 1, 0, 1, 0, 0, 0, 0] ?_
  first | refine op_y (y_fld0 Heap.fo_459_0 rfl) rfl ?_ | refine op_y (y_flda Heap.fo_459_0 rfl) rfl ?_
  apply op_ld Heap.sc_22 rfl rfl
  ·exact rm
  ·rfl
  first | refine op_y (y_fld0 Heap.fo_459_0 rfl) rfl ?_ | refine op_y (y_flda Heap.fo_459_0 rfl) rfl ?_
  apply op_ld Heap.sc_22 rfl rfl
  ·exact rm
  ·rfl
  first | refine op_y (y_lt rfl rfl (decide_eq_true (by omega))) rfl ?_ | refine op_y (y_lt rfl rfl (decide_eq_false (by omega))) rfl ?_ | refine op_y (y_lt rfl rfl rfl) rfl ?_
  refine op_y (y_move rfl) rfl ?_
  first
   | refine op_s1 rfl rfl ⟨rfl, rfl⟩ ?_
   | refine op_s2 rfl rfl ⟨rfl, rfl⟩ ?_
   | (refine op_g rfl rfl ?_
      first | refine op_y (y_fld0 Heap.fo_459_0 rfl) rfl ?_ | refine op_y (y_flda Heap.fo_459_0 rfl) rfl ?_)
  first
   | refine op_s1 rfl rfl ⟨rfl, rfl⟩ ?_
   | refine op_s2 rfl rfl ⟨rfl, rfl⟩ ?_
   | (refine op_g rfl rfl ?_
      apply op_ld Heap.sc_22 rfl rfl
      ·exact rm
      ·rfl)
  first
   | refine op_s1 rfl rfl ⟨rfl, rfl⟩ ?_
   | refine op_s2 rfl rfl ⟨rfl, rfl⟩ ?_
   | (refine op_g rfl rfl ?_
      first | refine op_y (y_fld0 Heap.fo_459_0 rfl) rfl ?_ | refine op_y (y_flda Heap.fo_459_0 rfl) rfl ?_)
  first
   | refine op_s1 rfl rfl ⟨rfl, rfl⟩ ?_
   | refine op_s2 rfl rfl ⟨rfl, rfl⟩ ?_
   | (refine op_g rfl rfl ?_
      apply op_ld Heap.sc_22 rfl rfl
      ·exact rm
      ·rfl)
  first
   | refine op_s1 rfl rfl ⟨rfl, rfl⟩ ?_
   | refine op_s2 rfl rfl ⟨rfl, rfl⟩ ?_
   | (refine op_g rfl rfl ?_
      first | refine op_y (y_eq rfl rfl (eqT (by omega))) rfl ?_ | refine op_y (y_eq rfl rfl (eqF (by omega))) rfl ?_ | refine op_y (y_eq rfl rfl rfl) rfl ?_)
  first
   | refine op_s1 rfl rfl ⟨rfl, rfl⟩ ?_
   | refine op_s2 rfl rfl ⟨rfl, rfl⟩ ?_
   | (refine op_g rfl rfl ?_
      refine op_y (y_move rfl) rfl ?_)
  first
   | refine op_s1 rfl rfl ⟨rfl, rfl⟩ ?_
   | refine op_s2 rfl rfl ⟨rfl, rfl⟩ ?_
   | (refine op_g rfl rfl ?_
      first | refine op_y (y_fld Heap.fo_459_1 rfl) rfl ?_ | refine op_y (y_flda Heap.fo_459_1 rfl) rfl ?_)
  first
   | refine op_s1 rfl rfl ⟨rfl, rfl⟩ ?_
   | refine op_s2 rfl rfl ⟨rfl, rfl⟩ ?_
   | (refine op_g rfl rfl ?_
      apply op_ld Heap.sc_22 rfl rfl
      ·exact rm
      ·rfl)
  first
   | refine op_s1 rfl rfl ⟨rfl, rfl⟩ ?_
   | refine op_s2 rfl rfl ⟨rfl, rfl⟩ ?_
   | (refine op_g rfl rfl ?_
      first | refine op_y (y_fld Heap.fo_459_1 rfl) rfl ?_ | refine op_y (y_flda Heap.fo_459_1 rfl) rfl ?_)
  first
   | refine op_s1 rfl rfl ⟨rfl, rfl⟩ ?_
   | refine op_s2 rfl rfl ⟨rfl, rfl⟩ ?_
   | (refine op_g rfl rfl ?_
      apply op_ld Heap.sc_22 rfl rfl
      ·exact rm
      ·rfl)
  first
   | refine op_s1 rfl rfl ⟨rfl, rfl⟩ ?_
   | refine op_s2 rfl rfl ⟨rfl, rfl⟩ ?_
   | (refine op_g rfl rfl ?_
      first | refine op_y (y_lt rfl rfl (decide_eq_true (by omega))) rfl ?_ | refine op_y (y_lt rfl rfl (decide_eq_false (by omega))) rfl ?_ | refine op_y (y_lt rfl rfl rfl) rfl ?_)
  first
   | refine op_s1 rfl rfl ⟨rfl, rfl⟩ ?_
   | refine op_s2 rfl rfl ⟨rfl, rfl⟩ ?_
   | (refine op_g rfl rfl ?_
      first | refine op_y (y_pickt rfl rfl) rfl ?_ | refine op_y (y_pickf rfl rfl) rfl ?_ | refine op_y (y_pick rfl rfl rfl) rfl ?_)
  first | refine op_y (y_pickt rfl rfl) rfl ?_ | refine op_y (y_pickf rfl rfl) rfl ?_ | refine op_y (y_pick rfl rfl rfl) rfl ?_
  refine op_y (y_assign rfl) rfl ?_
  refine op_nil ?_
  refine ent_then ?_
  refine cd_ret ?_
  have hn : ¬ (r1 < r2 ∨ r1 = r2 ∧ k1 < k2) := by omega
  refine ent_ret1 rfl rfl ⟨[], ⟨by simp [hn], rfl⟩, fun w hs => hs.nil_of⟩

theorem up_ct_ (c : Cx) (hp b cap : Nat) (v1 v2 : Value) (rest : List Value) (es0 : List En) (i0 : Nat) (hi0 : i0 < es0.length) (hlen : es0.length ≤ 100000) :
 Ct Tryz.prog 278 #[.pointer (some ⟨hp, 0, none⟩), .int .i64 i0] c [pt hp 353 (hcs (some ⟨b, 0, none⟩) es0.length cap v1 v2), pt b 459 (flat En.cs es0 ++ rest)]
  fun v L => ∃ es, v = .tuple #[] ∧ L = [pt hp 353 (hcs (some ⟨b, 0, none⟩) es0.length cap v1 v2), pt b 459 (flat En.cs es ++ rest)] ∧ es.length = es0.length ∧ es.Perm es0 ∧ (UpOK es0 i0 → HeapOK es) := by
 refine ct_fn (args := [.pointer (some ⟨hp, 0, none⟩), .int .i64 i0]) [(0, .pointer (some ⟨hp, 0, none⟩)), (1, .int .i64 i0)] Tryz.func278 rfl Tryz.ntmps278 rfl ⟨rfl, rfl, trivial⟩ ?_
 refine cd_block ?_
 refine cd_loop (α := List En × Nat) (fun x => x.1.length = es0.length ∧ x.1.Perm es0 ∧ x.2 < es0.length ∧ (UpOK es0 i0 → UpOK x.1 x.2)) (fun x => x.2) (fun x => [(0, .pointer (some ⟨hp, 0, none⟩)), (1, .int .i64 x.2)]) (fun x => [pt hp 353 (hcs (some ⟨b, 0, none⟩) es0.length cap v1 v2), pt b 459 (flat En.cs x.1 ++ rest)]) (es0, i0) ⟨rfl, .refl _, hi0, id⟩ ⟨rfl, rfl, trivial⟩ (fun _ h => h) ?_
 rintro ⟨es, i⟩ ⟨hl, hperm, hi, hup⟩
 simp only [] at hl hperm hi hup ⊢
 refine cd_seq ?_
 refine cd_seq ?_
 refine cd_region [0, 0] ?_
 refine op_y (y_move rfl) rfl ?_
 first | refine op_y (y_gt rfl rfl (decide_eq_true (by omega))) rfl ?_ | refine op_y (y_gt rfl rfl (decide_eq_false (by omega))) rfl ?_ | refine op_y (y_gt rfl rfl rfl) rfl ?_
 refine op_nil ?_
 refine ent_then ?_
 refine cd_if rfl (fun h => ?_) (fun h => ?_)
 ·skip
  have h0 : 0 < i := by simp at h; omega
  refine cd_skip ?_
  refine ent_then ?_
  refine cd_block ?_
  refine cd_seq ?_
  refine cd_region [0, 0, 0, 0] ?_
  refine op_y (y_move rfl) rfl ?_
  first | refine op_y (y_sub rfl rfl (wi64 (by omega) (by omega))) rfl ?_ | refine op_y (y_sub rfl rfl rfl) rfl ?_
  first | refine op_y (y_quon rfl rfl (by omega) (by omega) (wi64 (by omega) (by omega))) rfl ?_ | refine op_y (y_quo rfl rfl (by omega) rfl) rfl ?_
  refine op_y (y_assign rfl) rfl ?_
  refine op_nil ?_
  refine ent_then ?_
  refine cd_seq ?_
  refine cd_seq ?_
  refine cd_draw ([]) [0, 1, 2, 3, 4, 5, 6, 7, 8, 9, 10, 11, 12, 13, 14, 15] [0, 0, 0, 1, 0, 0, 1, 0, 0, 0, 1, 0, 0, 1, 2, 0] mixed_ (by kernel_rfl) ?_
  refine op_y (y_move rfl) rfl ?_
  first | refine op_y (y_nil rfl) rfl ?_ | refine op_y (y_nili rfl) rfl ?_ | refine op_y (y_nilf rfl) rfl ?_
  first | refine op_y (y_fld0 Heap.fo_353_0 rfl) rfl ?_ | refine op_y (y_flda Heap.fo_353_0 rfl) rfl ?_
  apply op_ld Heap.sc_351 rfl rfl
  ·exact rm
  ·rfl
  refine op_y (y_move rfl) rfl ?_
  first | refine op_y (y_ix0 Heap.sl_351 rfl rfl rfl (by omega)) rfl ?_ | refine op_y (y_ix0 Heap.sl_351 rfl rfl (Int.toNat_of_nonneg (by omega)).symm (by omega)) rfl ?_ | refine op_y (y_ix Heap.sl_351 rfl rfl rfl (by omega)) rfl ?_ | refine op_y (y_ix Heap.sl_351 rfl rfl (Int.toNat_of_nonneg (by omega)).symm (by omega)) rfl ?_ | refine op_y (y_ixa Heap.sl_351 rfl rfl rfl (by omega)) rfl ?_ | refine op_y (y_ixa Heap.sl_351 rfl rfl (Int.toNat_of_nonneg (by omega)).symm (by omega)) rfl ?_
  apply op_lda Heap.ag_459 rfl rfl
  ·exact rm
  ·exact flat_take En.cs5 rest (get_gt (by rw [hl]; exact hi))
  ·first | rfl | simp [*]
  refine op_y (y_move rfl) rfl ?_
  first | refine op_y (y_nil rfl) rfl ?_ | refine op_y (y_nili rfl) rfl ?_ | refine op_y (y_nilf rfl) rfl ?_
  first | refine op_y (y_fld0 Heap.fo_353_0 rfl) rfl ?_ | refine op_y (y_flda Heap.fo_353_0 rfl) rfl ?_
  apply op_ld Heap.sc_351 rfl rfl
  ·exact rm
  ·rfl
  refine op_y (y_move rfl) rfl ?_
  first | refine op_y (y_ix0 (j := (i - 1) / 2) Heap.sl_351 rfl rfl (by omega) (by omega)) rfl ?_ | refine op_y (y_ix (j := (i - 1) / 2) Heap.sl_351 rfl rfl (by omega) (by omega)) rfl ?_ | refine op_y (y_ixa (j := (i - 1) / 2) Heap.sl_351 rfl rfl (by omega) (by omega)) rfl ?_
  apply op_lda Heap.ag_459 rfl rfl
  ·exact rm
  ·exact flat_take En.cs5 rest (get_gt (by rw [hl]; omega))
  ·first | rfl | simp [*]
  apply op_c Heap.ca_279 rfl rfl (fun e he_ => ahead_ct e (gt es i) (gt es ((i - 1) / 2)))
  ·exact sx
  rintro _ _ ⟨rfl, rfl⟩ G_ hG_
  simp only [zn] at hG_; subst hG_
  first | refine op_y (y_not (b := true) (r := false) rfl rfl) rfl ?_ | refine op_y (y_not (b := false) (r := true) rfl rfl) rfl ?_ | refine op_y (y_not rfl rfl) rfl ?_
  refine op_nil ?_
  refine ent_then ?_
  refine cd_if rfl (fun h2 => ?_) (fun h2 => ?_)
  ·skip
   refine cd_ret ?_
   refine ent_thn_ret ?_
   refine ent_block_ret ?_
   refine ent_then_ret ?_
   refine ent_block_ret ?_
   refine ent_end0 (.inr rfl) rfl ⟨_, ⟨es, rfl, rfl, hl, hperm, fun h => (hup h).done (.inr ?_)⟩, fun _ h => h⟩
   simpa [En.le] using h2
  ·skip
   have h3 : (gt es i).lt (gt es ((i - 1) / 2)) := by simpa using h2
   have hi1 : i < es.length := by omega
   have hi2 : (i - 1) / 2 < es.length := by omega
   refine cd_skip ?_
   refine ent_then ?_
   refine cd_seq ?_
   refine cd_draw ([]) [0, 1, 2, 3, 4, 5, 6, 7, 8, 9, 10, 11, 12, 13, 14, 15, 16, 17, 18, 19, 20, 21, 22, 23, 24, 25, 26, 27] [0, 0, 0, 1, 0, 0, 0, 0, 1, 0, 0, 0, 0, 1, 0, 0, 1, 0, 0, 0, 1, 0, 0, 1, 0, 2, 0, 2] mixed_ (by kernel_rfl) ?_
   refine op_y (y_move rfl) rfl ?_
   first | refine op_y (y_nil rfl) rfl ?_ | refine op_y (y_nili rfl) rfl ?_ | refine op_y (y_nilf rfl) rfl ?_
   first | refine op_y (y_fld0 Heap.fo_353_0 rfl) rfl ?_ | refine op_y (y_flda Heap.fo_353_0 rfl) rfl ?_
   apply op_ld Heap.sc_351 rfl rfl
   ·exact rm
   ·rfl
   refine op_y (y_move rfl) rfl ?_
   refine op_y (y_move rfl) rfl ?_
   first | refine op_y (y_nil rfl) rfl ?_ | refine op_y (y_nili rfl) rfl ?_ | refine op_y (y_nilf rfl) rfl ?_
   first | refine op_y (y_fld0 Heap.fo_353_0 rfl) rfl ?_ | refine op_y (y_flda Heap.fo_353_0 rfl) rfl ?_
   apply op_ld Heap.sc_351 rfl rfl
   ·exact rm
   ·rfl
   refine op_y (y_move rfl) rfl ?_
   refine op_y (y_move rfl) rfl ?_
   first | refine op_y (y_nil rfl) rfl ?_ | refine op_y (y_nili rfl) rfl ?_ | refine op_y (y_nilf rfl) rfl ?_
   first | refine op_y (y_fld0 Heap.fo_353_0 rfl) rfl ?_ | refine op_y (y_flda Heap.fo_353_0 rfl) rfl ?_
   apply op_ld Heap.sc_351 rfl rfl
   ·exact rm
   ·rfl
   refine op_y (y_move rfl) rfl ?_
   first | refine op_y (y_ix0 (j := (i - 1) / 2) Heap.sl_351 rfl rfl (by omega) (by omega)) rfl ?_ | refine op_y (y_ix (j := (i - 1) / 2) Heap.sl_351 rfl rfl (by omega) (by omega)) rfl ?_ | refine op_y (y_ixa (j := (i - 1) / 2) Heap.sl_351 rfl rfl (by omega) (by omega)) rfl ?_
   apply op_lda Heap.ag_459 rfl rfl
   ·exact rm
   ·exact flat_take En.cs5 rest (get_gt hi2)
   ·first | rfl | simp [*]
   refine op_y (y_move rfl) rfl ?_
   first | refine op_y (y_nil rfl) rfl ?_ | refine op_y (y_nili rfl) rfl ?_ | refine op_y (y_nilf rfl) rfl ?_
   first | refine op_y (y_fld0 Heap.fo_353_0 rfl) rfl ?_ | refine op_y (y_flda Heap.fo_353_0 rfl) rfl ?_
   apply op_ld Heap.sc_351 rfl rfl
   ·exact rm
   ·rfl
   refine op_y (y_move rfl) rfl ?_
   first | refine op_y (y_ix0 Heap.sl_351 rfl rfl rfl (by omega)) rfl ?_ | refine op_y (y_ix0 Heap.sl_351 rfl rfl (Int.toNat_of_nonneg (by omega)).symm (by omega)) rfl ?_ | refine op_y (y_ix Heap.sl_351 rfl rfl rfl (by omega)) rfl ?_ | refine op_y (y_ix Heap.sl_351 rfl rfl (Int.toNat_of_nonneg (by omega)).symm (by omega)) rfl ?_ | refine op_y (y_ixa Heap.sl_351 rfl rfl rfl (by omega)) rfl ?_ | refine op_y (y_ixa Heap.sl_351 rfl rfl (Int.toNat_of_nonneg (by omega)).symm (by omega)) rfl ?_
   apply op_lda Heap.ag_459 rfl rfl
   ·exact rm
   ·exact flat_take En.cs5 rest (get_gt hi1)
   ·first | rfl | simp [*]
   first | refine op_y (y_ix0 Heap.sl_351 rfl rfl rfl (by omega)) rfl ?_ | refine op_y (y_ix0 Heap.sl_351 rfl rfl (Int.toNat_of_nonneg (by omega)).symm (by omega)) rfl ?_ | refine op_y (y_ix Heap.sl_351 rfl rfl rfl (by omega)) rfl ?_ | refine op_y (y_ix Heap.sl_351 rfl rfl (Int.toNat_of_nonneg (by omega)).symm (by omega)) rfl ?_ | refine op_y (y_ixa Heap.sl_351 rfl rfl rfl (by omega)) rfl ?_ | refine op_y (y_ixa Heap.sl_351 rfl rfl (Int.toNat_of_nonneg (by omega)).symm (by omega)) rfl ?_
   apply op_sta Heap.sz_459 rfl rfl rfl rfl
   ·exact rm
   ·(rw [List.length_append, flat_length En.cs5]; omega)
   ·exact flat_splice En.cs5 _ rest hi1
   first | refine op_y (y_ix0 (j := (i - 1) / 2) Heap.sl_351 rfl rfl (by omega) (by omega)) rfl ?_ | refine op_y (y_ix (j := (i - 1) / 2) Heap.sl_351 rfl rfl (by omega) (by omega)) rfl ?_ | refine op_y (y_ixa (j := (i - 1) / 2) Heap.sl_351 rfl rfl (by omega) (by omega)) rfl ?_
   apply op_sta Heap.sz_459 rfl rfl rfl rfl
   ·exact rm
   ·(rw [List.length_append, flat_length En.cs5, List.length_set]; omega)
   ·exact flat_splice En.cs5 _ rest (by rw [List.length_set]; exact hi2)
   refine op_nil ?_
   refine ent_then ?_
   refine cd_region [0, 0] ?_
   refine op_y (y_move rfl) rfl ?_
   refine op_y (y_assign rfl) rfl ?_
   refine op_nil ?_
   refine ent_block ?_
   refine ent_back (swp es i ((i - 1) / 2), (i - 1) / 2) ⟨(swp_length ..).trans hl, (swp_perm hi1 hi2).trans hperm, ?_, fun h => (hup h).step h0 hi1 h3⟩ ?_ ⟨rfl, ?_, trivial⟩ fun w h => h.swap
   ·show (i - 1) / 2 < es0.length
    omega
   ·show (i - 1) / 2 < i
    omega
   ·exact congrArg (fun z => some (Value.int .i64 z)) (by omega)
 ·skip
  have h0 : i = 0 := by simp at h; omega
  refine cd_exit ?_
  refine ent_thn_exit ?_
  refine ent_then_exit ?_
  refine ent_block_exit ?_
  refine ent_end0 (.inl rfl) rfl ⟨_, ⟨es, rfl, rfl, hl, hperm, fun h => (hup h).done (.inl h0)⟩, fun _ h => h⟩

theorem down_ct_ (c : Cx) (hp b cap : Nat) (v1 v2 : Value) (rest : List Value) (es0 : List En) (hlen : es0.length ≤ 100000) :
 Ct Tryz.prog 277 #[.pointer (some ⟨hp, 0, none⟩), .int .i64 0] c [pt hp 353 (hcs (some ⟨b, 0, none⟩) es0.length cap v1 v2), pt b 459 (flat En.cs es0 ++ rest)]
  fun v L => ∃ es, v = .tuple #[] ∧ L = [pt hp 353 (hcs (some ⟨b, 0, none⟩) es0.length cap v1 v2), pt b 459 (flat En.cs es ++ rest)] ∧ es.length = es0.length ∧ es.Perm es0 ∧ (DnOK es0 0 → HeapOK es) := by
 refine ct_fn (args := [.pointer (some ⟨hp, 0, none⟩), .int .i64 0]) [(0, .pointer (some ⟨hp, 0, none⟩)), (1, .int .i64 0)] Tryz.func277 rfl Tryz.ntmps277 rfl ⟨rfl, rfl, trivial⟩ ?_
 refine cd_block ?_
 refine cd_loop (α := List En × Nat) (fun x => x.1.length = es0.length ∧ x.1.Perm es0 ∧ x.2 ≤ 200000 ∧ (DnOK es0 0 → DnOK x.1 x.2)) (fun x => es0.length + 200001 - x.2) (fun x => [(0, .pointer (some ⟨hp, 0, none⟩)), (1, .int .i64 x.2)]) (fun x => [pt hp 353 (hcs (some ⟨b, 0, none⟩) es0.length cap v1 v2), pt b 459 (flat En.cs x.1 ++ rest)]) (es0, 0) ⟨rfl, .refl _, by omega, id⟩ ⟨rfl, rfl, trivial⟩ (fun _ h => h) ?_
 rintro ⟨es, i⟩ ⟨hl, hperm, hi, hdn⟩
 simp only [] at hl hperm hi hdn ⊢
 refine cd_block ?_
 refine cd_seq ?_
 refine cd_region [0, 0, 0, 0] ?_
 refine op_y (y_move rfl) rfl ?_
 first | refine op_y (y_mul rfl rfl (wi64 (by omega) (by omega))) rfl ?_ | refine op_y (y_mul rfl rfl rfl) rfl ?_
 first | refine op_y (y_add rfl rfl (wi64 (by omega) (by omega))) rfl ?_ | refine op_y (y_add rfl rfl rfl) rfl ?_
 refine op_y (y_assign rfl) rfl ?_
 refine op_nil ?_
 refine ent_then ?_
 refine cd_seq ?_
 refine cd_seq ?_
 refine cd_region [0, 0, 0, 0, 1, 0, 0] ?_
 refine op_y (y_move rfl) rfl ?_
 refine op_y (y_move rfl) rfl ?_
 first | refine op_y (y_nil rfl) rfl ?_ | refine op_y (y_nili rfl) rfl ?_ | refine op_y (y_nilf rfl) rfl ?_
 first | refine op_y (y_fld0 Heap.fo_353_0 rfl) rfl ?_ | refine op_y (y_flda Heap.fo_353_0 rfl) rfl ?_
 apply op_ld Heap.sc_351 rfl rfl
 ·exact rm
 ·rfl
 refine op_y (y_len Heap.un_351 rfl) rfl ?_
 first | refine op_y (y_ge rfl rfl (decide_eq_true (by omega))) rfl ?_ | refine op_y (y_ge rfl rfl (decide_eq_false (by omega))) rfl ?_ | refine op_y (y_ge rfl rfl rfl) rfl ?_
 refine op_nil ?_
 refine ent_then ?_
 refine cd_if rfl (fun h => ?_) (fun h => ?_)
 ·skip
  have h0 : es0.length ≤ 2 * i + 1 := by simp at h; omega
  refine cd_ret ?_
  refine ent_thn_ret ?_
  refine ent_block_ret ?_
  refine ent_then_ret ?_
  refine ent_block_ret ?_
  refine ent_end0 (.inr rfl) rfl ⟨_, ⟨es, rfl, rfl, hl, hperm, fun h => (hdn h).done fun k k0 hk hp => by omega⟩, fun _ h => h⟩
 ·skip
  have h0 : 2 * i + 1 < es0.length := by simp at h; omega
  have hi1 : i < es.length := by omega
  refine cd_skip ?_
  refine ent_then ?_
  refine cd_cut (α := Nat) (fun u => u < es.length ∧ 0 < u ∧ (u - 1) / 2 = i ∧ ∀ k, 0 < k → k < es.length → (k - 1) / 2 = i → (gt es u).le (gt es k)) (fun u => [(0, .pointer (some ⟨hp, 0, none⟩)), (1, .int .i64 i), (4, .int .i64 u)]) (fun _ => [pt hp 353 (hcs (some ⟨b, 0, none⟩) es0.length cap v1 v2), pt b 459 (flat En.cs es ++ rest)]) ?_ ?_
  ·skip
   by_cases h2 : 2 * i + 2 < es0.length
   ·skip
    refine cd_seq ?_
    refine cd_draw ([]) [0, 1, 2, 3, 4, 5, 6, 7, 8, 9, 10, 11, 12, 13, 14, 15, 16, 17, 18, 19, 20, 21, 22, 23, 24, 25] [0, 0, 0, 0, 0, 1, 0, 0, 0, 0, 0, 0, 1, 0, 0, 0, 1, 0, 0, 0, 1, 0, 0, 1, 2, 0] mixed_ (by kernel_rfl) ?_
    refine op_y (y_move rfl) rfl ?_
    first | refine op_y (y_add rfl rfl (wi64 (by omega) (by omega))) rfl ?_ | refine op_y (y_add rfl rfl rfl) rfl ?_
    refine op_y (y_move rfl) rfl ?_
    first | refine op_y (y_nil rfl) rfl ?_ | refine op_y (y_nili rfl) rfl ?_ | refine op_y (y_nilf rfl) rfl ?_
    first | refine op_y (y_fld0 Heap.fo_353_0 rfl) rfl ?_ | refine op_y (y_flda Heap.fo_353_0 rfl) rfl ?_
    apply op_ld Heap.sc_351 rfl rfl
    ·exact rm
    ·rfl
    refine op_y (y_len Heap.un_351 rfl) rfl ?_
    first | refine op_y (y_lt rfl rfl (decide_eq_true (by omega))) rfl ?_ | refine op_y (y_lt rfl rfl (decide_eq_false (by omega))) rfl ?_ | refine op_y (y_lt rfl rfl rfl) rfl ?_
    refine op_y (y_move rfl) rfl ?_
    first
     | refine op_s1 rfl rfl ⟨rfl, rfl⟩ ?_
     | refine op_s2 rfl rfl ⟨rfl, rfl⟩ ?_
     | (refine op_g rfl rfl ?_
        refine op_y (y_move rfl) rfl ?_)
    first
     | refine op_s1 rfl rfl ⟨rfl, rfl⟩ ?_
     | refine op_s2 rfl rfl ⟨rfl, rfl⟩ ?_
     | (refine op_g rfl rfl ?_
        first | refine op_y (y_nil rfl) rfl ?_ | refine op_y (y_nili rfl) rfl ?_ | refine op_y (y_nilf rfl) rfl ?_)
    first
     | refine op_s1 rfl rfl ⟨rfl, rfl⟩ ?_
     | refine op_s2 rfl rfl ⟨rfl, rfl⟩ ?_
     | (refine op_g rfl rfl ?_
        first | refine op_y (y_fld0 Heap.fo_353_0 rfl) rfl ?_ | refine op_y (y_flda Heap.fo_353_0 rfl) rfl ?_)
    first
     | refine op_s1 rfl rfl ⟨rfl, rfl⟩ ?_
     | refine op_s2 rfl rfl ⟨rfl, rfl⟩ ?_
     | (refine op_g rfl rfl ?_
        apply op_ld Heap.sc_351 rfl rfl
        ·exact rm
        ·rfl)
    first
     | refine op_s1 rfl rfl ⟨rfl, rfl⟩ ?_
     | refine op_s2 rfl rfl ⟨rfl, rfl⟩ ?_
     | (refine op_g rfl rfl ?_
        refine op_y (y_move rfl) rfl ?_)
    first
     | refine op_s1 rfl rfl ⟨rfl, rfl⟩ ?_
     | refine op_s2 rfl rfl ⟨rfl, rfl⟩ ?_
     | (refine op_g rfl rfl ?_
        first | refine op_y (y_add rfl rfl (wi64 (by omega) (by omega))) rfl ?_ | refine op_y (y_add rfl rfl rfl) rfl ?_)
    refine op_g rfl rfl ?_
    first | refine op_y (y_ix0 (j := 2 * i + 2) Heap.sl_351 rfl rfl (by omega) (by omega)) rfl ?_ | refine op_y (y_ix (j := 2 * i + 2) Heap.sl_351 rfl rfl (by omega) (by omega)) rfl ?_ | refine op_y (y_ixa (j := 2 * i + 2) Heap.sl_351 rfl rfl (by omega) (by omega)) rfl ?_
    refine op_g rfl rfl ?_
    apply op_lda Heap.ag_459 rfl rfl
    ·exact rm
    ·exact flat_take En.cs5 rest (get_gt (by rw [hl]; exact h2))
    ·first | rfl | simp [*]
    first
     | refine op_s1 rfl rfl ⟨rfl, rfl⟩ ?_
     | refine op_s2 rfl rfl ⟨rfl, rfl⟩ ?_
     | (refine op_g rfl rfl ?_
        refine op_y (y_move rfl) rfl ?_)
    first
     | refine op_s1 rfl rfl ⟨rfl, rfl⟩ ?_
     | refine op_s2 rfl rfl ⟨rfl, rfl⟩ ?_
     | (refine op_g rfl rfl ?_
        first | refine op_y (y_nil rfl) rfl ?_ | refine op_y (y_nili rfl) rfl ?_ | refine op_y (y_nilf rfl) rfl ?_)
    first
     | refine op_s1 rfl rfl ⟨rfl, rfl⟩ ?_
     | refine op_s2 rfl rfl ⟨rfl, rfl⟩ ?_
     | (refine op_g rfl rfl ?_
        first | refine op_y (y_fld0 Heap.fo_353_0 rfl) rfl ?_ | refine op_y (y_flda Heap.fo_353_0 rfl) rfl ?_)
    first
     | refine op_s1 rfl rfl ⟨rfl, rfl⟩ ?_
     | refine op_s2 rfl rfl ⟨rfl, rfl⟩ ?_
     | (refine op_g rfl rfl ?_
        apply op_ld Heap.sc_351 rfl rfl
        ·exact rm
        ·rfl)
    first
     | refine op_s1 rfl rfl ⟨rfl, rfl⟩ ?_
     | refine op_s2 rfl rfl ⟨rfl, rfl⟩ ?_
     | (refine op_g rfl rfl ?_
        refine op_y (y_move rfl) rfl ?_)
    refine op_g rfl rfl ?_
    first | refine op_y (y_ix0 (j := 2 * i + 1) Heap.sl_351 rfl rfl (by omega) (by omega)) rfl ?_ | refine op_y (y_ix (j := 2 * i + 1) Heap.sl_351 rfl rfl (by omega) (by omega)) rfl ?_ | refine op_y (y_ixa (j := 2 * i + 1) Heap.sl_351 rfl rfl (by omega) (by omega)) rfl ?_
    refine op_g rfl rfl ?_
    apply op_lda Heap.ag_459 rfl rfl
    ·exact rm
    ·exact flat_take En.cs5 rest (get_gt (by rw [hl]; exact h0))
    ·first | rfl | simp [*]
    refine op_g rfl rfl ?_
    apply op_c Heap.ca_279 rfl rfl (fun e he_ => ahead_ct e (gt es (2 * i + 2)) (gt es (2 * i + 1)))
    ·exact sx
    rintro _ _ ⟨rfl, rfl⟩ G_ hG_
    simp only [zn] at hG_; subst hG_
    first | refine op_y (y_pickt rfl rfl) rfl ?_ | refine op_y (y_pickf rfl rfl) rfl ?_ | refine op_y (y_pick rfl rfl rfl) rfl ?_
    refine op_nil ?_
    refine ent_then ?_
    refine cd_if rfl (fun h3 => ?_) (fun h3 => ?_)
    ·skip
     have h4 : (gt es (2 * i + 2)).lt (gt es (2 * i + 1)) := by simpa using h3
     refine cd_region [0, 0, 0] ?_
     refine op_y (y_move rfl) rfl ?_
     first | refine op_y (y_add rfl rfl (wi64 (by omega) (by omega))) rfl ?_ | refine op_y (y_add rfl rfl rfl) rfl ?_
     refine op_y (y_assign rfl) rfl ?_
     refine op_nil ?_
     refine ent_join (2 * i + 2) ⟨by omega, by omega, by omega, fun k k0 hk hp => ?_⟩ ⟨rfl, rfl, congrArg (fun z => some (Value.int .i64 z)) (by omega), trivial⟩ fun w h => h
     have : k = 2 * i + 1 ∨ k = 2 * i + 2 := by omega
     rcases this with rfl | rfl
     ·exact En.lt_le h4
     ·exact En.le_refl _
    ·skip
     have h4 : (gt es (2 * i + 1)).le (gt es (2 * i + 2)) := by simpa [En.le] using h3
     refine cd_skip ?_
     refine ent_join (2 * i + 1) ⟨by omega, by omega, by omega, fun k k0 hk hp => ?_⟩ ⟨rfl, rfl, congrArg (fun z => some (Value.int .i64 z)) (by omega), trivial⟩ fun w h => h
     have : k = 2 * i + 1 ∨ k = 2 * i + 2 := by omega
     rcases this with rfl | rfl
     ·exact En.le_refl _
     ·exact h4
   ·skip
    refine cd_seq ?_
    refine cd_draw ([]) [0, 1, 2, 3, 4, 5, 6, 7, 8, 9, 10, 11, 12, 13, 14, 15, 16, 17, 18, 19, 20, 21, 22, 23, 24, 25] [0, 0, 0, 0, 0, 1, 0, 0, 0, 0, 0, 0, 1, 0, 0, 0, 1, 0, 0, 0, 1, 0, 0, 1, 2, 0] mixed_ (by kernel_rfl) ?_
    refine op_y (y_move rfl) rfl ?_
    first | refine op_y (y_add rfl rfl (wi64 (by omega) (by omega))) rfl ?_ | refine op_y (y_add rfl rfl rfl) rfl ?_
    refine op_y (y_move rfl) rfl ?_
    first | refine op_y (y_nil rfl) rfl ?_ | refine op_y (y_nili rfl) rfl ?_ | refine op_y (y_nilf rfl) rfl ?_
    first | refine op_y (y_fld0 Heap.fo_353_0 rfl) rfl ?_ | refine op_y (y_flda Heap.fo_353_0 rfl) rfl ?_
    apply op_ld Heap.sc_351 rfl rfl
    ·exact rm
    ·rfl
    refine op_y (y_len Heap.un_351 rfl) rfl ?_
    first | refine op_y (y_lt rfl rfl (decide_eq_true (by omega))) rfl ?_ | refine op_y (y_lt rfl rfl (decide_eq_false (by omega))) rfl ?_ | refine op_y (y_lt rfl rfl rfl) rfl ?_
    refine op_y (y_move rfl) rfl ?_
    first
     | refine op_s1 rfl rfl ⟨rfl, rfl⟩ ?_
     | refine op_s2 rfl rfl ⟨rfl, rfl⟩ ?_
     | (refine op_g rfl rfl ?_
        refine op_y (y_move rfl) rfl ?_)
    first
     | refine op_s1 rfl rfl ⟨rfl, rfl⟩ ?_
     | refine op_s2 rfl rfl ⟨rfl, rfl⟩ ?_
     | (refine op_g rfl rfl ?_
        first | refine op_y (y_nil rfl) rfl ?_ | refine op_y (y_nili rfl) rfl ?_ | refine op_y (y_nilf rfl) rfl ?_)
    first
     | refine op_s1 rfl rfl ⟨rfl, rfl⟩ ?_
     | refine op_s2 rfl rfl ⟨rfl, rfl⟩ ?_
     | (refine op_g rfl rfl ?_
        first | refine op_y (y_fld0 Heap.fo_353_0 rfl) rfl ?_ | refine op_y (y_flda Heap.fo_353_0 rfl) rfl ?_)
    first
     | refine op_s1 rfl rfl ⟨rfl, rfl⟩ ?_
     | refine op_s2 rfl rfl ⟨rfl, rfl⟩ ?_
     | (refine op_g rfl rfl ?_
        apply op_ld Heap.sc_351 rfl rfl
        ·exact rm
        ·rfl)
    first
     | refine op_s1 rfl rfl ⟨rfl, rfl⟩ ?_
     | refine op_s2 rfl rfl ⟨rfl, rfl⟩ ?_
     | (refine op_g rfl rfl ?_
        refine op_y (y_move rfl) rfl ?_)
    first
     | refine op_s1 rfl rfl ⟨rfl, rfl⟩ ?_
     | refine op_s2 rfl rfl ⟨rfl, rfl⟩ ?_
     | (refine op_g rfl rfl ?_
        first | refine op_y (y_add rfl rfl (wi64 (by omega) (by omega))) rfl ?_ | refine op_y (y_add rfl rfl rfl) rfl ?_)
    first
     | refine op_s1 rfl rfl ⟨rfl, rfl⟩ ?_
     | refine op_s2 rfl rfl ⟨rfl, rfl⟩ ?_
     | (refine op_g rfl rfl ?_
        first | refine op_y (y_ix0 Heap.sl_351 rfl rfl rfl (by omega)) rfl ?_ | refine op_y (y_ix0 Heap.sl_351 rfl rfl (Int.toNat_of_nonneg (by omega)).symm (by omega)) rfl ?_ | refine op_y (y_ix Heap.sl_351 rfl rfl rfl (by omega)) rfl ?_ | refine op_y (y_ix Heap.sl_351 rfl rfl (Int.toNat_of_nonneg (by omega)).symm (by omega)) rfl ?_ | refine op_y (y_ixa Heap.sl_351 rfl rfl rfl (by omega)) rfl ?_ | refine op_y (y_ixa Heap.sl_351 rfl rfl (Int.toNat_of_nonneg (by omega)).symm (by omega)) rfl ?_)
    first
     | refine op_s1 rfl rfl ⟨rfl, rfl⟩ ?_
     | refine op_s2 rfl rfl ⟨rfl, rfl⟩ ?_
     | (refine op_g rfl rfl ?_
        apply op_lda Heap.ag_459 rfl rfl
        ·exact rm
        ·(first | ((try simp only [zz, splice, Nat.reduceAdd, Nat.zero_mul]) <;> rfl) | rfl)
        ·rfl)
    first
     | refine op_s1 rfl rfl ⟨rfl, rfl⟩ ?_
     | refine op_s2 rfl rfl ⟨rfl, rfl⟩ ?_
     | (refine op_g rfl rfl ?_
        refine op_y (y_move rfl) rfl ?_)
    first
     | refine op_s1 rfl rfl ⟨rfl, rfl⟩ ?_
     | refine op_s2 rfl rfl ⟨rfl, rfl⟩ ?_
     | (refine op_g rfl rfl ?_
        first | refine op_y (y_nil rfl) rfl ?_ | refine op_y (y_nili rfl) rfl ?_ | refine op_y (y_nilf rfl) rfl ?_)
    first
     | refine op_s1 rfl rfl ⟨rfl, rfl⟩ ?_
     | refine op_s2 rfl rfl ⟨rfl, rfl⟩ ?_
     | (refine op_g rfl rfl ?_
        first | refine op_y (y_fld0 Heap.fo_353_0 rfl) rfl ?_ | refine op_y (y_flda Heap.fo_353_0 rfl) rfl ?_)
    first
     | refine op_s1 rfl rfl ⟨rfl, rfl⟩ ?_
     | refine op_s2 rfl rfl ⟨rfl, rfl⟩ ?_
     | (refine op_g rfl rfl ?_
        apply op_ld Heap.sc_351 rfl rfl
        ·exact rm
        ·rfl)
    first
     | refine op_s1 rfl rfl ⟨rfl, rfl⟩ ?_
     | refine op_s2 rfl rfl ⟨rfl, rfl⟩ ?_
     | (refine op_g rfl rfl ?_
        refine op_y (y_move rfl) rfl ?_)
    first
     | refine op_s1 rfl rfl ⟨rfl, rfl⟩ ?_
     | refine op_s2 rfl rfl ⟨rfl, rfl⟩ ?_
     | (refine op_g rfl rfl ?_
        first | refine op_y (y_ix0 Heap.sl_351 rfl rfl rfl (by omega)) rfl ?_ | refine op_y (y_ix0 Heap.sl_351 rfl rfl (Int.toNat_of_nonneg (by omega)).symm (by omega)) rfl ?_ | refine op_y (y_ix Heap.sl_351 rfl rfl rfl (by omega)) rfl ?_ | refine op_y (y_ix Heap.sl_351 rfl rfl (Int.toNat_of_nonneg (by omega)).symm (by omega)) rfl ?_ | refine op_y (y_ixa Heap.sl_351 rfl rfl rfl (by omega)) rfl ?_ | refine op_y (y_ixa Heap.sl_351 rfl rfl (Int.toNat_of_nonneg (by omega)).symm (by omega)) rfl ?_)
    first
     | refine op_s1 rfl rfl ⟨rfl, rfl⟩ ?_
     | refine op_s2 rfl rfl ⟨rfl, rfl⟩ ?_
     | (refine op_g rfl rfl ?_
        apply op_lda Heap.ag_459 rfl rfl
        ·exact rm
        ·(first | ((try simp only [zz, splice, Nat.reduceAdd, Nat.zero_mul]) <;> rfl) | rfl)
        ·rfl)
    first | refine op_s1 rfl rfl ⟨rfl, rfl⟩ ?_ | refine op_s2 rfl rfl ⟨rfl, rfl⟩ ?_
    first | refine op_y (y_pickt rfl rfl) rfl ?_ | refine op_y (y_pickf rfl rfl) rfl ?_ | refine op_y (y_pick rfl rfl rfl) rfl ?_
    refine op_nil ?_
    refine ent_then ?_
    refine cd_iff rfl ?_
    refine cd_skip ?_
    refine ent_join (2 * i + 1) ⟨by omega, by omega, by omega, fun k k0 hk hp => ?_⟩ ⟨rfl, rfl, congrArg (fun z => some (Value.int .i64 z)) (by omega), trivial⟩ fun w h => h
    have : k = 2 * i + 1 := by omega
    subst this
    exact En.le_refl _
  ·skip
   rintro u ⟨hu, hu0, hup, hmin⟩
   refine cd_seq ?_
   refine cd_seq ?_
   refine cd_draw ([]) [0, 1, 2, 3, 4, 5, 6, 7, 8, 9, 10, 11, 12, 13, 14, 15] [0, 0, 0, 1, 0, 0, 1, 0, 0, 0, 1, 0, 0, 1, 2, 0] mixed_ (by kernel_rfl) ?_
   refine op_y (y_move rfl) rfl ?_
   first | refine op_y (y_nil rfl) rfl ?_ | refine op_y (y_nili rfl) rfl ?_ | refine op_y (y_nilf rfl) rfl ?_
   first | refine op_y (y_fld0 Heap.fo_353_0 rfl) rfl ?_ | refine op_y (y_flda Heap.fo_353_0 rfl) rfl ?_
   apply op_ld Heap.sc_351 rfl rfl
   ·exact rm
   ·rfl
   refine op_y (y_move rfl) rfl ?_
   first | refine op_y (y_ix0 Heap.sl_351 rfl rfl rfl (by omega)) rfl ?_ | refine op_y (y_ix0 Heap.sl_351 rfl rfl (Int.toNat_of_nonneg (by omega)).symm (by omega)) rfl ?_ | refine op_y (y_ix Heap.sl_351 rfl rfl rfl (by omega)) rfl ?_ | refine op_y (y_ix Heap.sl_351 rfl rfl (Int.toNat_of_nonneg (by omega)).symm (by omega)) rfl ?_ | refine op_y (y_ixa Heap.sl_351 rfl rfl rfl (by omega)) rfl ?_ | refine op_y (y_ixa Heap.sl_351 rfl rfl (Int.toNat_of_nonneg (by omega)).symm (by omega)) rfl ?_
   apply op_lda Heap.ag_459 rfl rfl
   ·exact rm
   ·exact flat_take En.cs5 rest (get_gt hu)
   ·first | rfl | simp [*]
   refine op_y (y_move rfl) rfl ?_
   first | refine op_y (y_nil rfl) rfl ?_ | refine op_y (y_nili rfl) rfl ?_ | refine op_y (y_nilf rfl) rfl ?_
   first | refine op_y (y_fld0 Heap.fo_353_0 rfl) rfl ?_ | refine op_y (y_flda Heap.fo_353_0 rfl) rfl ?_
   apply op_ld Heap.sc_351 rfl rfl
   ·exact rm
   ·rfl
   refine op_y (y_move rfl) rfl ?_
   first | refine op_y (y_ix0 Heap.sl_351 rfl rfl rfl (by omega)) rfl ?_ | refine op_y (y_ix0 Heap.sl_351 rfl rfl (Int.toNat_of_nonneg (by omega)).symm (by omega)) rfl ?_ | refine op_y (y_ix Heap.sl_351 rfl rfl rfl (by omega)) rfl ?_ | refine op_y (y_ix Heap.sl_351 rfl rfl (Int.toNat_of_nonneg (by omega)).symm (by omega)) rfl ?_ | refine op_y (y_ixa Heap.sl_351 rfl rfl rfl (by omega)) rfl ?_ | refine op_y (y_ixa Heap.sl_351 rfl rfl (Int.toNat_of_nonneg (by omega)).symm (by omega)) rfl ?_
   apply op_lda Heap.ag_459 rfl rfl
   ·exact rm
   ·exact flat_take En.cs5 rest (get_gt hi1)
   ·first | rfl | simp [*]
   apply op_c Heap.ca_279 rfl rfl (fun e he_ => ahead_ct e (gt es u) (gt es i))
   ·exact sx
   rintro _ _ ⟨rfl, rfl⟩ G_ hG_
   simp only [zn] at hG_; subst hG_
   first | refine op_y (y_not (b := true) (r := false) rfl rfl) rfl ?_ | refine op_y (y_not (b := false) (r := true) rfl rfl) rfl ?_ | refine op_y (y_not rfl rfl) rfl ?_
   refine op_nil ?_
   refine ent_then ?_
   refine cd_if rfl (fun h3 => ?_) (fun h3 => ?_)
   ·skip
    have h4 : (gt es i).le (gt es u) := by simpa [En.le] using h3
    refine cd_ret ?_
    refine ent_thn_ret ?_
    refine ent_block_ret ?_
    refine ent_then_ret ?_
    refine ent_block_ret ?_
    refine ent_end0 (.inr rfl) rfl ⟨_, ⟨es, rfl, rfl, hl, hperm, fun h => (hdn h).done fun k k0 hk hp => En.le_trans h4 (hmin k k0 hk hp)⟩, fun _ h => h⟩
   ·skip
    have h4 : (gt es u).lt (gt es i) := by simpa using h3
    refine cd_skip ?_
    refine ent_then ?_
    refine cd_seq ?_
    refine cd_draw ([]) [0, 1, 2, 3, 4, 5, 6, 7, 8, 9, 10, 11, 12, 13, 14, 15, 16, 17, 18, 19, 20, 21, 22, 23, 24, 25, 26, 27] [0, 0, 0, 1, 0, 0, 0, 0, 1, 0, 0, 0, 0, 1, 0, 0, 1, 0, 0, 0, 1, 0, 0, 1, 0, 2, 0, 2] mixed_ (by kernel_rfl) ?_
    refine op_y (y_move rfl) rfl ?_
    first | refine op_y (y_nil rfl) rfl ?_ | refine op_y (y_nili rfl) rfl ?_ | refine op_y (y_nilf rfl) rfl ?_
    first | refine op_y (y_fld0 Heap.fo_353_0 rfl) rfl ?_ | refine op_y (y_flda Heap.fo_353_0 rfl) rfl ?_
    apply op_ld Heap.sc_351 rfl rfl
    ·exact rm
    ·rfl
    refine op_y (y_move rfl) rfl ?_
    refine op_y (y_move rfl) rfl ?_
    first | refine op_y (y_nil rfl) rfl ?_ | refine op_y (y_nili rfl) rfl ?_ | refine op_y (y_nilf rfl) rfl ?_
    first | refine op_y (y_fld0 Heap.fo_353_0 rfl) rfl ?_ | refine op_y (y_flda Heap.fo_353_0 rfl) rfl ?_
    apply op_ld Heap.sc_351 rfl rfl
    ·exact rm
    ·rfl
    refine op_y (y_move rfl) rfl ?_
    refine op_y (y_move rfl) rfl ?_
    first | refine op_y (y_nil rfl) rfl ?_ | refine op_y (y_nili rfl) rfl ?_ | refine op_y (y_nilf rfl) rfl ?_
    first | refine op_y (y_fld0 Heap.fo_353_0 rfl) rfl ?_ | refine op_y (y_flda Heap.fo_353_0 rfl) rfl ?_
    apply op_ld Heap.sc_351 rfl rfl
    ·exact rm
    ·rfl
    refine op_y (y_move rfl) rfl ?_
    first | refine op_y (y_ix0 Heap.sl_351 rfl rfl rfl (by omega)) rfl ?_ | refine op_y (y_ix0 Heap.sl_351 rfl rfl (Int.toNat_of_nonneg (by omega)).symm (by omega)) rfl ?_ | refine op_y (y_ix Heap.sl_351 rfl rfl rfl (by omega)) rfl ?_ | refine op_y (y_ix Heap.sl_351 rfl rfl (Int.toNat_of_nonneg (by omega)).symm (by omega)) rfl ?_ | refine op_y (y_ixa Heap.sl_351 rfl rfl rfl (by omega)) rfl ?_ | refine op_y (y_ixa Heap.sl_351 rfl rfl (Int.toNat_of_nonneg (by omega)).symm (by omega)) rfl ?_
    apply op_lda Heap.ag_459 rfl rfl
    ·exact rm
    ·exact flat_take En.cs5 rest (get_gt hu)
    ·first | rfl | simp [*]
    refine op_y (y_move rfl) rfl ?_
    first | refine op_y (y_nil rfl) rfl ?_ | refine op_y (y_nili rfl) rfl ?_ | refine op_y (y_nilf rfl) rfl ?_
    first | refine op_y (y_fld0 Heap.fo_353_0 rfl) rfl ?_ | refine op_y (y_flda Heap.fo_353_0 rfl) rfl ?_
    apply op_ld Heap.sc_351 rfl rfl
    ·exact rm
    ·rfl
    refine op_y (y_move rfl) rfl ?_
    first | refine op_y (y_ix0 Heap.sl_351 rfl rfl rfl (by omega)) rfl ?_ | refine op_y (y_ix0 Heap.sl_351 rfl rfl (Int.toNat_of_nonneg (by omega)).symm (by omega)) rfl ?_ | refine op_y (y_ix Heap.sl_351 rfl rfl rfl (by omega)) rfl ?_ | refine op_y (y_ix Heap.sl_351 rfl rfl (Int.toNat_of_nonneg (by omega)).symm (by omega)) rfl ?_ | refine op_y (y_ixa Heap.sl_351 rfl rfl rfl (by omega)) rfl ?_ | refine op_y (y_ixa Heap.sl_351 rfl rfl (Int.toNat_of_nonneg (by omega)).symm (by omega)) rfl ?_
    apply op_lda Heap.ag_459 rfl rfl
    ·exact rm
    ·exact flat_take En.cs5 rest (get_gt hi1)
    ·first | rfl | simp [*]
    first | refine op_y (y_ix0 Heap.sl_351 rfl rfl rfl (by omega)) rfl ?_ | refine op_y (y_ix0 Heap.sl_351 rfl rfl (Int.toNat_of_nonneg (by omega)).symm (by omega)) rfl ?_ | refine op_y (y_ix Heap.sl_351 rfl rfl rfl (by omega)) rfl ?_ | refine op_y (y_ix Heap.sl_351 rfl rfl (Int.toNat_of_nonneg (by omega)).symm (by omega)) rfl ?_ | refine op_y (y_ixa Heap.sl_351 rfl rfl rfl (by omega)) rfl ?_ | refine op_y (y_ixa Heap.sl_351 rfl rfl (Int.toNat_of_nonneg (by omega)).symm (by omega)) rfl ?_
    apply op_sta Heap.sz_459 rfl rfl rfl rfl
    ·exact rm
    ·(rw [List.length_append, flat_length En.cs5]; omega)
    ·exact flat_splice En.cs5 _ rest hi1
    first | refine op_y (y_ix0 Heap.sl_351 rfl rfl rfl (by omega)) rfl ?_ | refine op_y (y_ix0 Heap.sl_351 rfl rfl (Int.toNat_of_nonneg (by omega)).symm (by omega)) rfl ?_ | refine op_y (y_ix Heap.sl_351 rfl rfl rfl (by omega)) rfl ?_ | refine op_y (y_ix Heap.sl_351 rfl rfl (Int.toNat_of_nonneg (by omega)).symm (by omega)) rfl ?_ | refine op_y (y_ixa Heap.sl_351 rfl rfl rfl (by omega)) rfl ?_ | refine op_y (y_ixa Heap.sl_351 rfl rfl (Int.toNat_of_nonneg (by omega)).symm (by omega)) rfl ?_
    apply op_sta Heap.sz_459 rfl rfl rfl rfl
    ·exact rm
    ·(rw [List.length_append, flat_length En.cs5, List.length_set]; omega)
    ·exact flat_splice En.cs5 _ rest (by rw [List.length_set]; exact hu)
    refine op_nil ?_
    refine ent_then ?_
    refine cd_region [0, 0] ?_
    refine op_y (y_move rfl) rfl ?_
    refine op_y (y_assign rfl) rfl ?_
    refine op_nil ?_
    refine ent_block ?_
    refine ent_back (swp es i u, u) ⟨(swp_length ..).trans hl, (swp_perm hi1 hu).trans hperm, ?_, fun h => (hdn h).step hu0 hu hup hmin h4⟩ ?_ ⟨rfl, rfl, trivial⟩ fun w h => h.swap
    ·show u ≤ 200000
     omega
    ·show es0.length + 200001 - u < es0.length + 200001 - i
     omega

theorem up_ct (c : Cx) (hp b cap : Nat) (v1 v2 : Value) (rest : List Value) (es0 : List En) (i0 n : Nat) (z : Int) (hi0 : i0 < es0.length) (hlen : es0.length ≤ 100000) (hn : n = es0.length) (hz : z = i0) :
 Ct Tryz.prog 278 #[.pointer (some ⟨hp, 0, none⟩), .int .i64 z] c [pt hp 353 [.slice (some ⟨b, 0, none⟩) n cap, v1, v2], pt b 459 (flat En.cs es0 ++ rest)]
  fun v L => ∃ es, v = .tuple #[] ∧ L = [pt hp 353 [.slice (some ⟨b, 0, none⟩) n cap, v1, v2], pt b 459 (flat En.cs es ++ rest)] ∧ es.length = es0.length ∧ es.Perm es0 ∧ (UpOK es0 i0 → HeapOK es) := by
 subst hn; subst hz; exact up_ct_ c hp b cap v1 v2 rest es0 i0 hi0 hlen
theorem down_ct (c : Cx) (hp b cap : Nat) (v1 v2 : Value) (rest : List Value) (es0 : List En) (n : Nat) (hlen : es0.length ≤ 100000) (hn : n = es0.length) :
 Ct Tryz.prog 277 #[.pointer (some ⟨hp, 0, none⟩), .int .i64 0] c [pt hp 353 [.slice (some ⟨b, 0, none⟩) n cap, v1, v2], pt b 459 (flat En.cs es0 ++ rest)]
  fun v L => ∃ es, v = .tuple #[] ∧ L = [pt hp 353 [.slice (some ⟨b, 0, none⟩) n cap, v1, v2], pt b 459 (flat En.cs es ++ rest)] ∧ es.length = es0.length ∧ es.Perm es0 ∧ (DnOK es0 0 → HeapOK es) := by
 subst hn; exact down_ct_ c hp b cap v1 v2 rest es0 hlen
end Go.Proofs.YtfkadaodnaaceaaGreatDoor
