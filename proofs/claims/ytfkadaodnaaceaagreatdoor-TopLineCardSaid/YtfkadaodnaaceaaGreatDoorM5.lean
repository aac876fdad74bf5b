/- TopLine answers true at every input, and its arguments read as they did: part 5; conditions: the row's own. -/
import Derived.Test.YtfkadaodnaaceaaGreatDoorM4
set_option linter.all false
set_option linter.unusedVariables false
set_option linter.unusedSimpArgs false
/- The shaper: a packet comes in. -/
namespace Go.Proofs.YtfkadaodnaaceaaGreatDoor
open Go Go.SL
theorem Shaper2.ag_62 : aggK Tryz.prog 62 = some 3 := by kernel_rfl
theorem Shaper2.ag_64 : aggK Tryz.prog 64 = some 42 := by kernel_rfl
theorem Shaper2.ca_112 : callable Tryz.prog 112 = true := by kernel_rfl
theorem Shaper2.ca_165 : callable Tryz.prog 165 = true := by kernel_rfl
theorem Shaper2.ca_166 : callable Tryz.prog 166 = true := by kernel_rfl
theorem Shaper2.fo_62_0 : fieldOff Tryz.prog 62 0 = some 0 := by kernel_rfl
theorem Shaper2.fo_62_2 : fieldOff Tryz.prog 62 2 = some 2 := by kernel_rfl
theorem Shaper2.fo_64_1 : fieldOff Tryz.prog 64 1 = some 1 := by kernel_rfl
theorem Shaper2.fo_64_3 : fieldOff Tryz.prog 64 3 = some 5 := by kernel_rfl
theorem Shaper2.fo_73_1 : fieldOff Tryz.prog 73 1 = some 1 := by kernel_rfl
theorem Shaper2.fo_73_2 : fieldOff Tryz.prog 73 2 = some 2 := by kernel_rfl
theorem Shaper2.fo_73_3 : fieldOff Tryz.prog 73 3 = some 3 := by kernel_rfl
theorem Shaper2.fo_212_0 : fieldOff Tryz.prog 212 0 = some 0 := by kernel_rfl
theorem Shaper2.fo_212_1 : fieldOff Tryz.prog 212 1 = some 1 := by kernel_rfl
theorem Shaper2.fo_212_3 : fieldOff Tryz.prog 212 3 = some 5 := by kernel_rfl
theorem Shaper2.fo_212_4 : fieldOff Tryz.prog 212 4 = some 6 := by kernel_rfl
theorem Shaper2.iv_288_273_2 (x a0 a1 : Value) (w : World) : (invoke (.fn (.method "pacemaker/shaper.push") #[]) #[.iface 288 x, a0, a1]).run Tryz.prog w = .ok (.enter 273 #[x, a0, a1]) w := by kernel_rfl
theorem Shaper2.iv_293_284_2 (x a0 a1 : Value) (w : World) : (invoke (.fn (.method "pacemaker/shaper.push") #[]) #[.iface 293 x, a0, a1]).run Tryz.prog w = .ok (.enter 284 #[x, a0, a1]) w := by kernel_rfl
theorem Shaper2.pl_62 : placesK Tryz.prog 62 = some [(0, 1), (1, 1), (2, 1)] := by kernel_rfl
theorem Shaper2.pl_64 : placesK Tryz.prog 64 = some [(0, 1), (1, 1), (2, 3), (5, 1), (6, 36)] := by kernel_rfl
theorem Shaper2.sc_22 : scalarT Tryz.prog 22 = true := by kernel_rfl
theorem Shaper2.sc_42 : scalarT Tryz.prog 42 = true := by kernel_rfl
theorem Shaper2.sc_206 : scalarT Tryz.prog 206 = true := by kernel_rfl
theorem Shaper2.sc_208 : scalarT Tryz.prog 208 = true := by kernel_rfl
theorem Shaper2.sc_209 : scalarT Tryz.prog 209 = true := by kernel_rfl
theorem Shaper2.sz_22 : sizeK Tryz.prog 22 = some 1 := by kernel_rfl
theorem Shaper2.sz_33 : sizeK Tryz.prog 33 = some 1 := by kernel_rfl
theorem Shaper2.sz_62 : sizeK Tryz.prog 62 = some 3 := by kernel_rfl
theorem Shaper2.sz_64 : sizeK Tryz.prog 64 = some 42 := by kernel_rfl
theorem Shaper2.ze_62 : zeroC Tryz.prog 62 = some [.int .u32 0, .int .u32 0, .int .u64 0] := by kernel_rfl
theorem Shaper2.ze_64 : zeroC Tryz.prog 64 = some [.int .i64 0, .int .i64 0, .int .u32 0, .int .u32 0, .int .u64 0, .int .u64 0, .int .u64 0, .int .u64 0, .int .i64 0, .int .u64 0, .int .u64 0, .int .u64 0, .int .u64 0, .int .u64 0, .int .u64 0, .int .u64 0, .int .u64 0, .int .u64 0, .int .u64 0, .int .u64 0, .int .u64 0, .int .u64 0, .int .u64 0, .int .u64 0, .int .u64 0, .int .u64 0, .int .u64 0, .int .u64 0, .int .u64 0, .int .u64 0, .int .u64 0, .int .u64 0, .int .u64 0, .int .u64 0, .int .u64 0, .int .u64 0, .int .u64 0, .int .u64 0, .int .u64 0, .int .u64 0, .int .u64 0, .int .u64 0] := by kernel_rfl
set_option maxRecDepth 100000
set_option maxHeartbeats 1000000
abbrev opv (kind flow id len ticks : Int) : List Value := [.int .i64 kind, .int .u32 flow, .int .u32 id, .int .u64 len, .int .u64 ticks]
abbrev rep (kind code flow id len rank : Int) : List Value := [.int .i64 kind, .int .i64 code, .int .u32 flow, .int .u32 id, .int .u64 len, .int .u64 rank, .int .u64 0, .int .u64 0, .int .i64 0, .int .u64 0, .int .u64 0, .int .u64 0, .int .u64 0, .int .u64 0, .int .u64 0, .int .u64 0, .int .u64 0, .int .u64 0, .int .u64 0, .int .u64 0, .int .u64 0, .int .u64 0, .int .u64 0, .int .u64 0, .int .u64 0, .int .u64 0, .int .u64 0, .int .u64 0, .int .u64 0, .int .u64 0, .int .u64 0, .int .u64 0, .int .u64 0, .int .u64 0, .int .u64 0, .int .u64 0, .int .u64 0, .int .u64 0, .int .u64 0, .int .u64 0, .int .u64 0, .int .u64 0]
theorem why_lt (x : SS) (n : Nat) : x.why n < 32 := by
 unfold SS.why mayE fitE
 repeat' split
 all_goals first | decide | omega
theorem enq_ct (c : Cx) (s kd : Nat) (cal : Bool) (k id n : Nat) (x : SS) (hx : SOK x) (hkd : kd = 1 ∨ kd = 2) (hid : id < 4294967296) (hn : n < 18446744073709551616) (hk : k < 18446744073709551615) :
 Ct Tryz.prog 107 #[.pointer (some ⟨s, 0, none⟩), .agg (opv 1 1 id n 0).toArray] c [shI s kd cal k x, tabA]
  fun v L => (x.why n ≠ 0 ∧ v = .agg (rep 1 (x.why n : Nat) 1 id n 0).toArray ∧ L = [shI s kd cal k x, tabA]) ∨
   (x.why n = 0 ∧ v = .agg (rep 1 0 1 id n (rankOf kd x.now x.virt x.tag : Nat)).toArray ∧ L = [shI s kd cal (k + 1) (x.push kd id n), tabA]) := by
 refine ct_fn (args := [.pointer (some ⟨s, 0, none⟩), .agg (opv 1 1 id n 0).toArray]) [(0, .pointer (some ⟨s, 0, none⟩)), (1, .agg (opv 1 1 id n 0).toArray)] Tryz.func107 rfl Tryz.ntmps107 rfl ⟨rfl, rfl, trivial⟩ ?_
 refine cd_open shI_open ?_
 rintro ⟨g, r, p, rf⟩ hX
 have hXl := hX.len
 have hXt := hX.lt
 simp only at hXl hXt ⊢
 refine cd_seq ?_
 refine cd_region [2, 2] ?_
 refine op_boxa rfl rfl fun b3 => ?_
 refine op_alloc Shaper2.ze_64 rfl fun b4 => ?_
 refine op_nil ?_
 refine ent_then ?_
 refine cd_seq ?_
 refine cd_region [0, 1, 0, 1, 0, 1, 0, 2, 2] ?_
 first | refine op_y (y_fld Shaper2.fo_73_1 rfl) rfl ?_ | refine op_y (y_flda Shaper2.fo_73_1 rfl) rfl ?_
 apply op_ld Shaper2.sc_42 rfl rfl
 ·exact rm
 ·rfl
 first | refine op_y (y_fld Shaper2.fo_73_2 rfl) rfl ?_ | refine op_y (y_flda Shaper2.fo_73_2 rfl) rfl ?_
 apply op_ld Shaper2.sc_42 rfl rfl
 ·exact rm
 ·rfl
 first | refine op_y (y_fld Shaper2.fo_73_3 rfl) rfl ?_ | refine op_y (y_flda Shaper2.fo_73_3 rfl) rfl ?_
 apply op_ld Shaper2.sc_22 rfl rfl
 ·exact rm
 ·rfl
 apply op_build Shaper2.pl_62 Shaper2.ze_62 rfl rfl
 ·(first | ((try simp [fillL, splice, Value.cells, Pk.cs, Bk.cs, scs, opv, rep]) <;> rfl) | rfl)
 refine op_alloc Shaper2.ze_62 rfl fun b5 => ?_
 apply op_sta Shaper2.sz_62 rfl rfl rfl rfl
 ·exact rm
 ·simp
 ·(first | ((try simp only [zz, splice, Nat.reduceAdd, Nat.zero_mul, Pk.cs, Bk.cs, scs, opv, rep]) <;> rfl) | rfl)
 refine op_nil ?_
 refine ent_then ?_
 refine cd_seq ?_
 refine cd_region [1, 0, 2, 2] ?_
 apply op_lda Shaper2.ag_62 rfl rfl
 ·exact rm
 ·(first | ((try simp only [zz, splice, Nat.reduceAdd, Nat.zero_mul, Pk.cs, Bk.cs, scs, opv, rep]) <;> rfl) | rfl)
 ·rfl
 apply op_build Shaper2.pl_64 Shaper2.ze_64 rfl rfl
 ·(first | ((try simp [fillL, splice, Value.cells, Pk.cs, Bk.cs, scs, opv, rep]) <;> rfl) | rfl)
 refine op_alloc Shaper2.ze_64 rfl fun b6 => ?_
 apply op_sta Shaper2.sz_64 rfl rfl rfl rfl
 ·exact rm
 ·simp
 ·(first | ((try simp only [zz, splice, Nat.reduceAdd, Nat.zero_mul, Pk.cs, Bk.cs, scs, opv, rep]) <;> rfl) | rfl)
 refine op_nil ?_
 refine ent_then ?_
 refine cd_seq ?_
 refine cd_seq ?_
 refine cd_draw ([]) [0, 1, 2, 3, 4, 5, 6, 7, 8, 9] [0, 0, 0, 1, 0, 1, 0, 1, 2, 0] mixed_ (by kernel_rfl) ?_
 refine op_y (y_move rfl) rfl ?_
 first | refine op_y (y_nil rfl) rfl ?_ | refine op_y (y_nili rfl) rfl ?_ | refine op_y (y_nilf rfl) rfl ?_
 first | refine op_y (y_fld0 Shaper2.fo_212_0 rfl) rfl ?_ | refine op_y (y_flda Shaper2.fo_212_0 rfl) rfl ?_
 apply op_ld Shaper2.sc_208 rfl rfl
 ·exact rm
 ·rfl
 first | refine op_y (y_fld0 Shaper2.fo_62_0 rfl) rfl ?_ | refine op_y (y_flda Shaper2.fo_62_0 rfl) rfl ?_
 apply op_ld Shaper2.sc_42 rfl rfl
 ·exact rm
 ·rfl
 first | refine op_y (y_fld Shaper2.fo_62_2 rfl) rfl ?_ | refine op_y (y_flda Shaper2.fo_62_2 rfl) rfl ?_
 apply op_ld Shaper2.sc_22 rfl rfl
 ·exact rm
 ·rfl
 apply op_c Shaper2.ca_165 rfl rfl (fun e he_ => gIn_ct e g kd (bkOf cal) x.I.length x.by n hx.len hx.by_ hn)
 ·exact sx
 rintro _ _ ⟨rfl, rfl⟩ G_ hG_
 simp only [zn] at hG_; subst hG_
 by_cases hw : x.why n = 0
 ·have hw' : mayE x.I.length x.by n = 0 := hw
  rw [if_pos hw', hw']
  skip
  have hf := why_fits hw
  have hb5 := hx.by_
  have hlen : x.I.length < 9 := by rcases hf with h | h <;> omega
  obtain ⟨rk, hrk⟩ : ∃ q, q = rankOf kd x.now x.virt x.tag := ⟨_, rfl⟩
  have hrkl : rk < 18446744073709551616 := hrk ▸ rankOf_lt hx.virt hx.tag
  refine op_y (y_assign rfl) rfl ?_
  refine op_nil ?_
  refine ent_then ?_
  refine cd_seq ?_
  refine cd_region [0, 0] ?_
  refine op_y (y_move rfl) rfl ?_
  first | refine op_y (y_ne rfl rfl (neT (by omega))) rfl ?_ | refine op_y (y_ne rfl rfl (neF (by omega))) rfl ?_ | refine op_y (y_ne rfl rfl rfl) rfl ?_
  refine op_nil ?_
  refine ent_then ?_
  refine cd_iff rfl ?_
  refine cd_skip ?_
  refine ent_then ?_
  refine cd_seq ?_
  refine cd_draw ([]) [0, 1, 2, 3, 4, 5, 6, 7, 8, 9, 10, 11, 12, 13, 14, 15, 16, 17] [0, 0, 0, 1, 0, 0, 0, 1, 0, 1, 0, 1, 2, 0, 0, 0, 0, 2] mixed_ (by kernel_rfl) ?_
  refine op_y (y_move rfl) rfl ?_
  first | refine op_y (y_nil rfl) rfl ?_ | refine op_y (y_nili rfl) rfl ?_ | refine op_y (y_nilf rfl) rfl ?_
  first | refine op_y (y_fld Shaper2.fo_212_1 rfl) rfl ?_ | refine op_y (y_flda Shaper2.fo_212_1 rfl) rfl ?_
  apply op_ld Shaper2.sc_209 rfl rfl
  ·exact rm
  ·rfl
  refine op_y (y_move rfl) rfl ?_
  first | refine op_y (y_nil rfl) rfl ?_ | refine op_y (y_nili rfl) rfl ?_ | refine op_y (y_nilf rfl) rfl ?_
  first | refine op_y (y_fld Shaper2.fo_212_4 rfl) rfl ?_ | refine op_y (y_flda Shaper2.fo_212_4 rfl) rfl ?_
  apply op_ld Shaper2.sc_22 rfl rfl
  ·exact rm
  ·rfl
  first | refine op_y (y_fld0 Shaper2.fo_62_0 rfl) rfl ?_ | refine op_y (y_flda Shaper2.fo_62_0 rfl) rfl ?_
  apply op_ld Shaper2.sc_42 rfl rfl
  ·exact rm
  ·rfl
  first | refine op_y (y_fld Shaper2.fo_62_2 rfl) rfl ?_ | refine op_y (y_flda Shaper2.fo_62_2 rfl) rfl ?_
  apply op_ld Shaper2.sc_22 rfl rfl
  ·exact rm
  ·rfl
  apply op_c Shaper2.ca_166 rfl rfl (fun e he_ => rNext_ct e r kd x.now x.virt x.tag n hkd hn hx.now hx.virt hx.tag)
  ·exact sx
  rintro _ _ ⟨rfl, rfl⟩ G_ hG_
  simp only [zn] at hG_; subst hG_
  rw [← hrk]
  have e2 : (x.push kd id n).I = insI ⟨rk, ⟨1, id, n⟩⟩ x.I := by rw [hrk]; rfl
  have e1 := push_len kd id n x
  have e3 := push_by kd id n x
  cases cal with
  | false =>
   skip
   refine op_y (y_move rfl) rfl ?_
   first | refine op_y (y_extl rfl rfl) rfl ?_ | refine op_y (y_ext rfl rfl) rfl ?_
   first | refine op_y (y_extl rfl rfl) rfl ?_ | refine op_y (y_ext rfl rfl) rfl ?_
   first | refine op_y (y_fld Shaper2.fo_64_3 rfl) rfl ?_ | refine op_y (y_flda Shaper2.fo_64_3 rfl) rfl ?_
   apply op_st1 Shaper2.sz_22 rfl rfl rfl
   ·exact rm
   ·rfl
   ·(first | ((try simp only [zz, splice, Nat.reduceAdd, Nat.zero_mul, Pk.cs, Bk.cs, scs, opv, rep]) <;> rfl) | rfl)
   refine op_nil ?_
   refine ent_then ?_
   refine cd_seq ?_
   refine cd_draw ([]) [0, 1, 2, 3, 4, 5, 6, 7] [0, 0, 0, 1, 0, 1, 1, 2] mixed_ (by kernel_rfl) ?_
   refine op_y (y_move rfl) rfl ?_
   first | refine op_y (y_nil rfl) rfl ?_ | refine op_y (y_nili rfl) rfl ?_ | refine op_y (y_nilf rfl) rfl ?_
   first | refine op_y (y_fld Shaper2.fo_212_3 rfl) rfl ?_ | refine op_y (y_flda Shaper2.fo_212_3 rfl) rfl ?_
   apply op_ld Shaper2.sc_206 rfl rfl
   ·exact rm
   ·rfl
   first | refine op_y (y_fld Shaper2.fo_64_3 rfl) rfl ?_ | refine op_y (y_flda Shaper2.fo_64_3 rfl) rfl ?_
   apply op_ld Shaper2.sc_22 rfl rfl
   ·exact rm
   ·rfl
   apply op_lda Shaper2.ag_62 rfl rfl
   ·exact rm
   ·(first | ((try simp only [zz, splice, Nat.reduceAdd, Nat.zero_mul, Pk.cs, Bk.cs, scs, opv, rep]) <;> rfl) | rfl)
   ·rfl
   apply op_inv rfl rfl rfl (fun w => Shaper2.iv_288_273_2 ..) (fun e he_ => hpush_ct e p k x.I ⟨rk, ⟨1, id, n⟩⟩ hlen hk)
   ·exact sx
   rintro _ _ ⟨rfl, rfl⟩ G_ hG_
   simp only [zn] at hG_; subst hG_
   refine op_nil ?_
   refine ent_then ?_
   refine cd_seq ?_
   refine cd_region [1, 2] ?_
   apply op_lda Shaper2.ag_64 rfl rfl
   ·exact rm
   ·(first | ((try simp only [zz, splice, Nat.reduceAdd, Nat.zero_mul, Pk.cs, Bk.cs, scs, opv, rep]) <;> rfl) | rfl)
   ·rfl
   apply op_sta Shaper2.sz_64 rfl rfl rfl rfl
   ·exact rm
   ·simp
   ·(first | ((try simp only [zz, splice, Nat.reduceAdd, Nat.zero_mul, Pk.cs, Bk.cs, scs, opv, rep]) <;> rfl) | rfl)
   refine op_nil ?_
   refine ent_then ?_
   refine cd_ret ?_
   refine ent_rets (rs := [_]) (vs := [.agg (rep 1 0 1 id n rk).toArray]) (.inl rfl) rfl ⟨⟨_, rfl, .inr ⟨_, 42, rfl, rfl, rds_all (by exact rm), rfl⟩⟩, trivial⟩ ⟨_, .inr ⟨hw, rfl, rfl⟩, fun w h => shI_shut ⟨g, r, p, rf⟩ hX ?_⟩
   rw [e1, e2, e3]
   show Sat [pt s 212 (scs g r x.tok p (backT false) x.now rf), gateI g kd (bkOf false) (x.I.length + 1) (x.by + n), rankI r kd x.virt (tagOf kd x.virt x.tag n), back false p (insI ⟨rk, ⟨1, id, n⟩⟩ x.I) (k + 1), tabA] c w
   apply Sat.only (h := h)
   exact sx
  | true =>
   skip
   refine op_y (y_move rfl) rfl ?_
   first | refine op_y (y_extl rfl rfl) rfl ?_ | refine op_y (y_ext rfl rfl) rfl ?_
   first | refine op_y (y_extl rfl rfl) rfl ?_ | refine op_y (y_ext rfl rfl) rfl ?_
   first | refine op_y (y_fld Shaper2.fo_64_3 rfl) rfl ?_ | refine op_y (y_flda Shaper2.fo_64_3 rfl) rfl ?_
   apply op_st1 Shaper2.sz_22 rfl rfl rfl
   ·exact rm
   ·rfl
   ·(first | ((try simp only [zz, splice, Nat.reduceAdd, Nat.zero_mul, Pk.cs, Bk.cs, scs, opv, rep]) <;> rfl) | rfl)
   refine op_nil ?_
   refine ent_then ?_
   refine cd_seq ?_
   refine cd_draw ([]) [0, 1, 2, 3, 4, 5, 6, 7] [0, 0, 0, 1, 0, 1, 1, 2] mixed_ (by kernel_rfl) ?_
   refine op_y (y_move rfl) rfl ?_
   first | refine op_y (y_nil rfl) rfl ?_ | refine op_y (y_nili rfl) rfl ?_ | refine op_y (y_nilf rfl) rfl ?_
   first | refine op_y (y_fld Shaper2.fo_212_3 rfl) rfl ?_ | refine op_y (y_flda Shaper2.fo_212_3 rfl) rfl ?_
   apply op_ld Shaper2.sc_206 rfl rfl
   ·exact rm
   ·rfl
   first | refine op_y (y_fld Shaper2.fo_64_3 rfl) rfl ?_ | refine op_y (y_flda Shaper2.fo_64_3 rfl) rfl ?_
   apply op_ld Shaper2.sc_22 rfl rfl
   ·exact rm
   ·rfl
   apply op_lda Shaper2.ag_62 rfl rfl
   ·exact rm
   ·(first | ((try simp only [zz, splice, Nat.reduceAdd, Nat.zero_mul, Pk.cs, Bk.cs, scs, opv, rep]) <;> rfl) | rfl)
   ·rfl
   apply op_inv rfl rfl rfl (fun w => Shaper2.iv_293_284_2 ..) (fun e he_ => cpush_ct e p k x.I ⟨rk, ⟨1, id, n⟩⟩ hlen hk hrkl)
   ·exact sx
   rintro _ _ ⟨rfl, rfl⟩ G_ hG_
   simp only [zn] at hG_; subst hG_
   refine op_nil ?_
   refine ent_then ?_
   refine cd_seq ?_
   refine cd_region [1, 2] ?_
   apply op_lda Shaper2.ag_64 rfl rfl
   ·exact rm
   ·(first | ((try simp only [zz, splice, Nat.reduceAdd, Nat.zero_mul, Pk.cs, Bk.cs, scs, opv, rep]) <;> rfl) | rfl)
   ·rfl
   apply op_sta Shaper2.sz_64 rfl rfl rfl rfl
   ·exact rm
   ·simp
   ·(first | ((try simp only [zz, splice, Nat.reduceAdd, Nat.zero_mul, Pk.cs, Bk.cs, scs, opv, rep]) <;> rfl) | rfl)
   refine op_nil ?_
   refine ent_then ?_
   refine cd_ret ?_
   refine ent_rets (rs := [_]) (vs := [.agg (rep 1 0 1 id n rk).toArray]) (.inl rfl) rfl ⟨⟨_, rfl, .inr ⟨_, 42, rfl, rfl, rds_all (by exact rm), rfl⟩⟩, trivial⟩ ⟨_, .inr ⟨hw, rfl, rfl⟩, fun w h => shI_shut ⟨g, r, p, rf⟩ hX ?_⟩
   rw [e1, e2, e3]
   show Sat [pt s 212 (scs g r x.tok p (backT true) x.now rf), gateI g kd (bkOf true) (x.I.length + 1) (x.by + n), rankI r kd x.virt (tagOf kd x.virt x.tag n), back true p (insI ⟨rk, ⟨1, id, n⟩⟩ x.I) (k + 1), tabA] c w
   apply Sat.only (h := h)
   exact sx
 ·have hw' : ¬ mayE x.I.length x.by n = 0 := hw
  rw [if_neg hw']
  obtain ⟨y, hy⟩ : ∃ q, q = mayE x.I.length x.by n := ⟨_, rfl⟩
  have hy2 : x.why n = y := hy.symm
  rw [← hy] at hw' ⊢
  rw [hy2]
  have hylt : y < 32 := hy2 ▸ why_lt x n
  skip
  refine op_y (y_assign rfl) rfl ?_
  refine op_nil ?_
  refine ent_then ?_
  refine cd_seq ?_
  refine cd_region [0, 0] ?_
  refine op_y (y_move rfl) rfl ?_
  first | refine op_y (y_ne rfl rfl (neT (by omega))) rfl ?_ | refine op_y (y_ne rfl rfl (neF (by omega))) rfl ?_ | refine op_y (y_ne rfl rfl rfl) rfl ?_
  refine op_nil ?_
  refine ent_then ?_
  refine cd_ift rfl ?_
  refine cd_seq ?_
  refine cd_region [0, 0, 2, 0, 2] ?_
  refine op_y (y_move rfl) rfl ?_
  refine op_y (y_move rfl) rfl ?_
  apply op_c Shaper2.ca_112 rfl rfl (fun e he_ => refuse_ct e s g r x.tok p (backT cal) x.now y rf hXl hXt hylt)
  ·exact sx
  rintro _ _ ⟨q, hq, rfl, rfl⟩ G_ hG_
  simp only [zn] at hG_; subst hG_
  first | refine op_y (y_fld Shaper2.fo_64_1 rfl) rfl ?_ | refine op_y (y_flda Shaper2.fo_64_1 rfl) rfl ?_
  apply op_st1 Shaper2.sz_33 rfl rfl rfl
  ·exact rm
  ·rfl
  ·(first | ((try simp only [zz, splice, Nat.reduceAdd, Nat.zero_mul, Pk.cs, Bk.cs, scs, opv, rep]) <;> rfl) | rfl)
  refine op_nil ?_
  refine ent_then ?_
  refine cd_seq ?_
  refine cd_region [1, 2] ?_
  apply op_lda Shaper2.ag_64 rfl rfl
  ·exact rm
  ·(first | ((try simp only [zz, splice, Nat.reduceAdd, Nat.zero_mul, Pk.cs, Bk.cs, scs, opv, rep]) <;> rfl) | rfl)
  ·rfl
  apply op_sta Shaper2.sz_64 rfl rfl rfl rfl
  ·exact rm
  ·simp
  ·(first | ((try simp only [zz, splice, Nat.reduceAdd, Nat.zero_mul, Pk.cs, Bk.cs, scs, opv, rep]) <;> rfl) | rfl)
  refine op_nil ?_
  refine ent_then ?_
  refine cd_ret ?_
  refine ent_thn_ret ?_
  refine ent_rets (rs := [_]) (vs := [.agg (rep 1 y 1 id n 0).toArray]) (.inl rfl) rfl ⟨⟨_, rfl, .inr ⟨_, 42, rfl, rfl, rds_all (by exact rm), rfl⟩⟩, trivial⟩ ⟨_, .inl ⟨hw', rfl, rfl⟩, fun w h => shI_shut ⟨g, r, p, rf.set y q⟩ (hX.inc hq) ?_⟩
  apply Sat.only (h := h)
  exact sx
end Go.Proofs.YtfkadaodnaaceaaGreatDoor
/- The shaper: the head leaves. -/
namespace Go.Proofs.YtfkadaodnaaceaaGreatDoor
open Go Go.SL
theorem Shaper3.ag_62 : aggK Tryz.prog 62 = some 3 := by kernel_rfl
theorem Shaper3.ag_64 : aggK Tryz.prog 64 = some 42 := by kernel_rfl
theorem Shaper3.ag_210 : aggK Tryz.prog 210 = some 3 := by kernel_rfl
theorem Shaper3.ca_167 : callable Tryz.prog 167 = true := by kernel_rfl
theorem Shaper3.ca_168 : callable Tryz.prog 168 = true := by kernel_rfl
theorem Shaper3.ca_169 : callable Tryz.prog 169 = true := by kernel_rfl
theorem Shaper3.fo_62_0 : fieldOff Tryz.prog 62 0 = some 0 := by kernel_rfl
theorem Shaper3.fo_62_2 : fieldOff Tryz.prog 62 2 = some 2 := by kernel_rfl
theorem Shaper3.fo_64_1 : fieldOff Tryz.prog 64 1 = some 1 := by kernel_rfl
theorem Shaper3.fo_64_2 : fieldOff Tryz.prog 64 2 = some 2 := by kernel_rfl
theorem Shaper3.fo_64_3 : fieldOff Tryz.prog 64 3 = some 5 := by kernel_rfl
theorem Shaper3.fo_212_0 : fieldOff Tryz.prog 212 0 = some 0 := by kernel_rfl
theorem Shaper3.fo_212_1 : fieldOff Tryz.prog 212 1 = some 1 := by kernel_rfl
theorem Shaper3.fo_212_2 : fieldOff Tryz.prog 212 2 = some 2 := by kernel_rfl
theorem Shaper3.fo_212_3 : fieldOff Tryz.prog 212 3 = some 5 := by kernel_rfl
theorem Shaper3.pl_64 : placesK Tryz.prog 64 = some [(0, 1), (1, 1), (2, 3), (5, 1), (6, 36)] := by kernel_rfl
theorem Shaper3.sc_22 : scalarT Tryz.prog 22 = true := by kernel_rfl
theorem Shaper3.sc_42 : scalarT Tryz.prog 42 = true := by kernel_rfl
theorem Shaper3.sc_206 : scalarT Tryz.prog 206 = true := by kernel_rfl
theorem Shaper3.sc_208 : scalarT Tryz.prog 208 = true := by kernel_rfl
theorem Shaper3.sc_209 : scalarT Tryz.prog 209 = true := by kernel_rfl
theorem Shaper3.sz_22 : sizeK Tryz.prog 22 = some 1 := by kernel_rfl
theorem Shaper3.sz_33 : sizeK Tryz.prog 33 = some 1 := by kernel_rfl
theorem Shaper3.sz_62 : sizeK Tryz.prog 62 = some 3 := by kernel_rfl
theorem Shaper3.sz_64 : sizeK Tryz.prog 64 = some 42 := by kernel_rfl
theorem Shaper3.sz_210 : sizeK Tryz.prog 210 = some 3 := by kernel_rfl
theorem Shaper3.ze_62 : zeroC Tryz.prog 62 = some [.int .u32 0, .int .u32 0, .int .u64 0] := by kernel_rfl
theorem Shaper3.ze_64 : zeroC Tryz.prog 64 = some [.int .i64 0, .int .i64 0, .int .u32 0, .int .u32 0, .int .u64 0, .int .u64 0, .int .u64 0, .int .u64 0, .int .i64 0, .int .u64 0, .int .u64 0, .int .u64 0, .int .u64 0, .int .u64 0, .int .u64 0, .int .u64 0, .int .u64 0, .int .u64 0, .int .u64 0, .int .u64 0, .int .u64 0, .int .u64 0, .int .u64 0, .int .u64 0, .int .u64 0, .int .u64 0, .int .u64 0, .int .u64 0, .int .u64 0, .int .u64 0, .int .u64 0, .int .u64 0, .int .u64 0, .int .u64 0, .int .u64 0, .int .u64 0, .int .u64 0, .int .u64 0, .int .u64 0, .int .u64 0, .int .u64 0, .int .u64 0] := by kernel_rfl
theorem Shaper3.ze_210 : zeroC Tryz.prog 210 = some [.int .u64 0, .int .u64 0, .int .u64 0] := by kernel_rfl
set_option maxRecDepth 100000
set_option maxHeartbeats 1000000
def headV (kd : Nat) (x : SS) : List Value := match x.I with
 | [] => rep 2 18 0 0 0 0
 | y :: _ => if x.tok < y.pk.len then rep 2 19 0 0 0 0 else rep 2 0 1 y.pk.id y.pk.len y.rank
theorem bTakeN_ct (c : Cx) (b : Bk) (n : Nat) (hb : b.ok) (hn : n < 18446744073709551616) (h : b.tok < n) : Ct Tryz.prog 167 #[.agg (Bk.cs b).toArray, .int .u64 n] c [] fun v L => v = .tuple #[.agg (Bk.cs b).toArray, .bool false] ∧ L = [] :=
 (bTake_ct c b n hb hn).mono fun v L ⟨h1, h2⟩ => ⟨by rw [h1, if_pos h], h2⟩
theorem bTakeY_ct (c : Cx) (tok n m : Nat) (hb : Bk.ok ⟨1000, 1000, tok⟩) (hn : n < 18446744073709551616) (h : ¬ tok < n) (hm : tok - n = m) : Ct Tryz.prog 167 #[.agg (Bk.cs ⟨1000, 1000, tok⟩).toArray, .int .u64 n] c [] fun v L => v = .tuple #[.agg [Value.int .u64 1000, .int .u64 1000, .int .u64 m].toArray, .bool true] ∧ L = [] :=
 (bTake_ct c ⟨1000, 1000, tok⟩ n hb hn).mono fun v L ⟨h1, h2⟩ => ⟨by rw [h1, if_neg h, ← hm]; rfl, h2⟩
theorem deq_ct (c : Cx) (s kd : Nat) (cal : Bool) (k : Nat) (x : SS) (hx : SOK x) :
 Ct Tryz.prog 108 #[.pointer (some ⟨s, 0, none⟩)] c [shI s kd cal k x, tabA]
  fun v L => v = .agg (headV kd x).toArray ∧ L = [shI s kd cal k (if x.out = 0 then x.pop kd else x), tabA] := by
 obtain ⟨I, tok, now, virt, tag⟩ := x
 have h1 := hx.len
 have h2 := hx.by_
 have h3 := hx.tok
 have hb : Bk.ok ⟨1000, 1000, tok⟩ := ⟨by simp, by simp, hx.tok, by simp, by simp⟩
 have h7 := hx.rank
 have h8 := hx.flow
 simp only at h1 h3 h7 h8
 refine ct_fn (args := [.pointer (some ⟨s, 0, none⟩)]) [(0, .pointer (some ⟨s, 0, none⟩))] Tryz.func108 rfl Tryz.ntmps108 rfl ⟨rfl, trivial⟩ ?_
 refine cd_open shI_open ?_
 rintro ⟨g, r, p, rf⟩ hX
 simp only []
 refine cd_seq ?_
 refine cd_region [2] ?_
 refine op_alloc Shaper3.ze_64 rfl fun b2 => ?_
 refine op_nil ?_
 refine ent_then ?_
 refine cd_seq ?_
 refine cd_region [0, 2, 2] ?_
 apply op_build Shaper3.pl_64 Shaper3.ze_64 rfl rfl
 ·(first | ((try simp [fillL, splice, Value.cells, Pk.cs, Bk.cs, scs, opv, rep]) <;> rfl) | rfl)
 refine op_alloc Shaper3.ze_64 rfl fun b3 => ?_
 apply op_sta Shaper3.sz_64 rfl rfl rfl rfl
 ·exact rm
 ·simp
 ·(first | ((try simp only [zz, splice, Nat.reduceAdd, Nat.zero_mul, Pk.cs, Bk.cs, scs, opv, rep]) <;> rfl) | rfl)
 refine op_nil ?_
 refine ent_then ?_
 refine cd_seq ?_
 refine cd_region [0, 0, 0, 1, 2, 0, 0, 0, 0, 2, 0, 2, 0] ?_
 refine op_y (y_move rfl) rfl ?_
 first | refine op_y (y_nil rfl) rfl ?_ | refine op_y (y_nili rfl) rfl ?_ | refine op_y (y_nilf rfl) rfl ?_
 first | refine op_y (y_fld Shaper3.fo_212_3 rfl) rfl ?_ | refine op_y (y_flda Shaper3.fo_212_3 rfl) rfl ?_
 apply op_ld Shaper3.sc_206 rfl rfl
 ·exact rm
 ·rfl
 apply op_inv rfl rfl rfl (fun w => peek_inv ..) (fun e he_ => bpeek_ct e cal p k I)
 ·exact sx
 rintro _ _ ⟨rfl, rfl⟩ G_ hG_
 simp only [zn] at hG_; subst hG_
 cases I with
 | nil =>
  skip
  refine op_y (y_move rfl) rfl ?_
  first | refine op_y (y_extl rfl rfl) rfl ?_ | refine op_y (y_ext rfl rfl) rfl ?_
  first | refine op_y (y_extl rfl rfl) rfl ?_ | refine op_y (y_ext rfl rfl) rfl ?_
  first | refine op_y (y_extl rfl rfl) rfl ?_ | refine op_y (y_ext rfl rfl) rfl ?_
  refine op_alloc Shaper3.ze_62 rfl fun b5 => ?_
  refine op_y (y_assign rfl) rfl ?_
  apply op_sta Shaper3.sz_62 rfl rfl rfl rfl
  ·exact rm
  ·simp
  ·(first | ((try simp only [zz, splice, Nat.reduceAdd, Nat.zero_mul, Pk.cs, Bk.cs, scs, opv, rep]) <;> rfl) | rfl)
  refine op_y (y_assign rfl) rfl ?_
  refine op_nil ?_
  refine ent_then ?_
  refine cd_seq ?_
  refine cd_seq ?_
  refine cd_region [0, 0] ?_
  refine op_y (y_move rfl) rfl ?_
  first | refine op_y (y_not (b := true) (r := false) rfl rfl) rfl ?_ | refine op_y (y_not (b := false) (r := true) rfl rfl) rfl ?_ | refine op_y (y_not rfl rfl) rfl ?_
  refine op_nil ?_
  refine ent_then ?_
  refine cd_ift rfl ?_
  refine cd_seq ?_
  refine cd_region [0, 2] ?_
  first | refine op_y (y_fld Shaper3.fo_64_1 rfl) rfl ?_ | refine op_y (y_flda Shaper3.fo_64_1 rfl) rfl ?_
  apply op_st1 Shaper3.sz_33 rfl rfl rfl
  ·exact rm
  ·rfl
  ·(first | ((try simp only [zz, splice, Nat.reduceAdd, Nat.zero_mul, Pk.cs, Bk.cs, scs, opv, rep]) <;> rfl) | rfl)
  refine op_nil ?_
  refine ent_then ?_
  refine cd_seq ?_
  refine cd_region [1, 2] ?_
  apply op_lda Shaper3.ag_64 rfl rfl
  ·exact rm
  ·(first | ((try simp only [zz, splice, Nat.reduceAdd, Nat.zero_mul, Pk.cs, Bk.cs, scs, opv, rep]) <;> rfl) | rfl)
  ·rfl
  apply op_sta Shaper3.sz_64 rfl rfl rfl rfl
  ·exact rm
  ·simp
  ·(first | ((try simp only [zz, splice, Nat.reduceAdd, Nat.zero_mul, Pk.cs, Bk.cs, scs, opv, rep]) <;> rfl) | rfl)
  refine op_nil ?_
  refine ent_then ?_
  refine cd_ret ?_
  refine ent_thn_ret ?_
  refine ent_rets (rs := [_]) (vs := [.agg (rep 2 18 0 0 0 0).toArray]) (.inl rfl) rfl ⟨⟨_, rfl, .inr ⟨_, 42, rfl, rfl, rds_all (by exact rm), rfl⟩⟩, trivial⟩ ⟨_, ⟨rfl, rfl⟩, fun w h => shI_shut ⟨g, r, p, rf⟩ hX ?_⟩
  show Sat [pt s 212 (scs g r tok p (backT cal) now rf), gateI g kd (bkOf cal) ([] : List It).length (SS.by ⟨[], tok, now, virt, tag⟩), rankI r kd virt tag, back cal p [] k, tabA] c w
  apply Sat.only (h := h)
  exact sx
 | cons y I' =>
  skip
  have hyf : y.pk.flow = 1 := h8 y (by simp)
  have hyr := h7 y (by simp)
  have hyl : y.pk.len ≤ 5000 := by simp [SS.by] at h2; omega
  obtain ⟨yr, yf, yi, yl⟩ := y
  simp only at hyf hyr hyl
  subst hyf
  by_cases ht : tok < yl
  ·skip
   have hE : SS.out ⟨⟨yr, ⟨1, yi, yl⟩⟩ :: I', tok, now, virt, tag⟩ = 19 := by simp [SS.out, ht]
   have hV : headV kd ⟨⟨yr, ⟨1, yi, yl⟩⟩ :: I', tok, now, virt, tag⟩ = rep 2 19 0 0 0 0 := by simp only [headV, ht, if_true]
   rw [hE, hV, if_neg (by decide)]
   refine op_y (y_move rfl) rfl ?_
   first | refine op_y (y_extl rfl rfl) rfl ?_ | refine op_y (y_ext rfl rfl) rfl ?_
   first | refine op_y (y_extl rfl rfl) rfl ?_ | refine op_y (y_ext rfl rfl) rfl ?_
   first | refine op_y (y_extl rfl rfl) rfl ?_ | refine op_y (y_ext rfl rfl) rfl ?_
   refine op_alloc Shaper3.ze_62 rfl fun b5 => ?_
   refine op_y (y_assign rfl) rfl ?_
   apply op_sta Shaper3.sz_62 rfl rfl rfl rfl
   ·exact rm
   ·simp
   ·(first | ((try simp only [zz, splice, Nat.reduceAdd, Nat.zero_mul, Pk.cs, Bk.cs, scs, opv, rep]) <;> rfl) | rfl)
   refine op_y (y_assign rfl) rfl ?_
   refine op_nil ?_
   refine ent_then ?_
   refine cd_seq ?_
   refine cd_seq ?_
   refine cd_region [0, 0] ?_
   refine op_y (y_move rfl) rfl ?_
   first | refine op_y (y_not (b := true) (r := false) rfl rfl) rfl ?_ | refine op_y (y_not (b := false) (r := true) rfl rfl) rfl ?_ | refine op_y (y_not rfl rfl) rfl ?_
   refine op_nil ?_
   refine ent_then ?_
   refine cd_iff rfl ?_
   refine cd_skip ?_
   refine ent_then ?_
   obtain ⟨by0, hby0⟩ : ∃ q, q = SS.by ⟨⟨yr, ⟨1, yi, yl⟩⟩ :: I', tok, now, virt, tag⟩ := ⟨_, rfl⟩
   rw [← hby0]
   obtain ⟨nI, hnI⟩ : ∃ q, q = (⟨yr, ⟨1, yi, yl⟩⟩ :: I' : List It).length := ⟨_, rfl⟩
   rw [← hnI]
   refine cd_cut (α := Nat) (fun _ => True) (fun b7 => [(0, .pointer (some ⟨s, 0, none⟩)), (2, .pointer (some ⟨b2, 0, none⟩)), (3, .pointer (some ⟨b3, 0, none⟩)), (6, .bool false), (7, .pointer (some ⟨b7, 0, none⟩))]) (fun b7 => [pt b3 64 (rep 2 0 0 0 0 0), pt b2 64 (rep 0 0 0 0 0 0), pt s 212 (scs g r tok p (backT cal) now rf), gateI g kd (bkOf cal) nI by0, rankI r kd virt tag, back cal p (⟨yr, ⟨1, yi, yl⟩⟩ :: I') k, tabA]) ?_ ?_
   ·skip
    refine cd_drawA ([pt s 212 (scs g r tok p (backT cal) now rf), pt b5 62 [.int .u32 (1 : Nat), .int .u32 yi, .int .u64 yl]]) [0, 1, 2, 3, 4, 5, 6, 7, 8, 9] 10 4 [11, 12] [0, 0, 0, 3, 0, 3, 2, 0, 0, 0] [2, 0] mixed_ (by kernel_rfl) ?_
    refine opA_y (y_move rfl) rfl ?_
    first | refine opA_y (y_nil rfl) rfl ?_ | refine opA_y (y_nili rfl) rfl ?_ | refine opA_y (y_nilf rfl) rfl ?_
    first | refine opA_y (y_fld Shaper3.fo_212_2 rfl) rfl ?_ | refine opA_y (y_flda Shaper3.fo_212_2 rfl) rfl ?_
    apply opA_ldas Shaper3.ag_210 rfl rfl
    ·exact rm
    ·(first | ((try simp only [zz, splice, Nat.reduceAdd, Nat.zero_mul, Pk.cs, Bk.cs, scs, opv, rep]) <;> rfl) | rfl)
    ·rfl
    ·(first | exact fun w h => h | exact fun w h => h.drop | (intro w h; apply Sat.only (h := h); exact sx))
    first | refine opA_y (y_fld Shaper3.fo_62_2 rfl) rfl ?_ | refine opA_y (y_flda Shaper3.fo_62_2 rfl) rfl ?_
    apply opA_lds Shaper3.sc_22 rfl rfl
    ·exact rm
    ·rfl
    ·(first | exact fun w h => h | exact fun w h => h.drop | (intro w h; apply Sat.only (h := h); exact sx))
    apply opA_c Shaper3.ca_167 rfl rfl rfl (.inr rfl) (fun e he_ => bTakeN_ct e ⟨1000, 1000, tok⟩ yl hb (by omega) ht)
    ·exact sx
    ·rintro _ _ ⟨rfl, rfl⟩ G_ hG_
     simp only [zn] at hG_; subst hG_
     refine opA_y (y_move rfl) rfl ?_
     first | refine opA_y (y_extl rfl rfl) rfl ?_ | refine opA_y (y_ext rfl rfl) rfl ?_
     first | refine opA_y (y_extl rfl rfl) rfl ?_ | refine opA_y (y_ext rfl rfl) rfl ?_
     refine opA_nil ?_
     refine op_alloc4 Shaper3.ze_210 rfl (by (first | exact fun w h => h | exact fun w h => h.drop | (intro w h; apply Sat.only (h := h); exact sx))) fun b7 => ?_
     apply op_sta Shaper3.sz_210 rfl rfl rfl rfl
     ·exact rm
     ·simp
     ·(first | ((try simp only [zz, splice, Nat.reduceAdd, Nat.zero_mul, Pk.cs, Bk.cs, scs, opv, rep]) <;> rfl) | rfl)
     refine op_y (y_assign rfl) rfl ?_
     refine op_nil ?_
     refine ent_join b7 trivial ⟨rfl, rfl, rfl, rfl, rfl, trivial⟩ fun w h => ?_
     apply Sat.only (h := h)
     exact sx
    ·skip
     refine op_alloc4 Shaper3.ze_210 rfl (by (first | exact fun w h => h | exact fun w h => h.drop | (intro w h; apply Sat.only (h := h); exact sx))) fun b7 => ?_
     apply op_c Shaper3.ca_167 rfl rfl (fun e he_ => bTakeN_ct e ⟨1000, 1000, tok⟩ yl hb (by omega) ht)
     ·exact sx
     rintro _ _ ⟨rfl, rfl⟩ G_ hG_
     simp only [zn] at hG_; subst hG_
     refine op_y (y_move rfl) rfl ?_
     first | refine op_y (y_extl rfl rfl) rfl ?_ | refine op_y (y_ext rfl rfl) rfl ?_
     first | refine op_y (y_extl rfl rfl) rfl ?_ | refine op_y (y_ext rfl rfl) rfl ?_
     apply op_sta Shaper3.sz_210 rfl rfl rfl rfl
     ·exact rm
     ·simp
     ·(first | ((try simp only [zz, splice, Nat.reduceAdd, Nat.zero_mul, Pk.cs, Bk.cs, scs, opv, rep]) <;> rfl) | rfl)
     refine op_y (y_assign rfl) rfl ?_
     refine op_nil ?_
     refine ent_join b7 trivial ⟨rfl, rfl, rfl, rfl, rfl, trivial⟩ fun w h => ?_
     apply Sat.only (h := h)
     exact sx
   ·skip
    rintro b7 -
    refine cd_seq ?_
    refine cd_seq ?_
    refine cd_region [0, 0] ?_
    refine op_y (y_move rfl) rfl ?_
    first | refine op_y (y_not (b := true) (r := false) rfl rfl) rfl ?_ | refine op_y (y_not (b := false) (r := true) rfl rfl) rfl ?_ | refine op_y (y_not rfl rfl) rfl ?_
    refine op_nil ?_
    refine ent_then ?_
    refine cd_ift rfl ?_
    refine cd_seq ?_
    refine cd_region [0, 2] ?_
    first | refine op_y (y_fld Shaper3.fo_64_1 rfl) rfl ?_ | refine op_y (y_flda Shaper3.fo_64_1 rfl) rfl ?_
    apply op_st1 Shaper3.sz_33 rfl rfl rfl
    ·exact rm
    ·rfl
    ·(first | ((try simp only [zz, splice, Nat.reduceAdd, Nat.zero_mul, Pk.cs, Bk.cs, scs, opv, rep]) <;> rfl) | rfl)
    refine op_nil ?_
    refine ent_then ?_
    refine cd_seq ?_
    refine cd_region [1, 2] ?_
    apply op_lda Shaper3.ag_64 rfl rfl
    ·exact rm
    ·(first | ((try simp only [zz, splice, Nat.reduceAdd, Nat.zero_mul, Pk.cs, Bk.cs, scs, opv, rep]) <;> rfl) | rfl)
    ·rfl
    apply op_sta Shaper3.sz_64 rfl rfl rfl rfl
    ·exact rm
    ·simp
    ·(first | ((try simp only [zz, splice, Nat.reduceAdd, Nat.zero_mul, Pk.cs, Bk.cs, scs, opv, rep]) <;> rfl) | rfl)
    refine op_nil ?_
    refine ent_then ?_
    refine cd_ret ?_
    refine ent_thn_ret ?_
    refine ent_rets (rs := [_]) (vs := [.agg (rep 2 19 0 0 0 0).toArray]) (.inl rfl) rfl ⟨⟨_, rfl, .inr ⟨_, 42, rfl, rfl, rds_all (by exact rm), rfl⟩⟩, trivial⟩ ⟨_, ⟨rfl, rfl⟩, fun w h => shI_shut ⟨g, r, p, rf⟩ hX ?_⟩
    show Sat [pt s 212 (scs g r tok p (backT cal) now rf), gateI g kd (bkOf cal) (⟨yr, ⟨1, yi, yl⟩⟩ :: I' : List It).length (SS.by ⟨⟨yr, ⟨1, yi, yl⟩⟩ :: I', tok, now, virt, tag⟩), rankI r kd virt tag, back cal p (⟨yr, ⟨1, yi, yl⟩⟩ :: I') k, tabA] c w
    rw [← hby0, ← hnI]
    apply Sat.only (h := h)
    exact sx
  ·skip
   have hE : SS.out ⟨⟨yr, ⟨1, yi, yl⟩⟩ :: I', tok, now, virt, tag⟩ = 0 := by simp [SS.out, ht]
   have hV : headV kd ⟨⟨yr, ⟨1, yi, yl⟩⟩ :: I', tok, now, virt, tag⟩ = rep 2 0 1 yi yl yr := by simp only [headV, ht, if_false]
   rw [hE, hV, if_pos rfl]
   refine op_y (y_move rfl) rfl ?_
   first | refine op_y (y_extl rfl rfl) rfl ?_ | refine op_y (y_ext rfl rfl) rfl ?_
   first | refine op_y (y_extl rfl rfl) rfl ?_ | refine op_y (y_ext rfl rfl) rfl ?_
   first | refine op_y (y_extl rfl rfl) rfl ?_ | refine op_y (y_ext rfl rfl) rfl ?_
   refine op_alloc Shaper3.ze_62 rfl fun b5 => ?_
   refine op_y (y_assign rfl) rfl ?_
   apply op_sta Shaper3.sz_62 rfl rfl rfl rfl
   ·exact rm
   ·simp
   ·(first | ((try simp only [zz, splice, Nat.reduceAdd, Nat.zero_mul, Pk.cs, Bk.cs, scs, opv, rep]) <;> rfl) | rfl)
   refine op_y (y_assign rfl) rfl ?_
   refine op_nil ?_
   refine ent_then ?_
   refine cd_seq ?_
   refine cd_seq ?_
   refine cd_region [0, 0] ?_
   refine op_y (y_move rfl) rfl ?_
   first | refine op_y (y_not (b := true) (r := false) rfl rfl) rfl ?_ | refine op_y (y_not (b := false) (r := true) rfl rfl) rfl ?_ | refine op_y (y_not rfl rfl) rfl ?_
   refine op_nil ?_
   refine ent_then ?_
   refine cd_iff rfl ?_
   refine cd_skip ?_
   refine ent_then ?_
   obtain ⟨by0, hby0⟩ : ∃ q, q = SS.by ⟨⟨yr, ⟨1, yi, yl⟩⟩ :: I', tok, now, virt, tag⟩ := ⟨_, rfl⟩
   have hby1 : SS.by ⟨I', tok - yl, now, if kd = 1 then yr else virt, tag⟩ = by0 - yl := by rw [hby0]; simp [SS.by]
   have hby2 : yl ≤ by0 := by rw [hby0]; simp [SS.by]
   have hby3 : by0 ≤ 5000 := hby0 ▸ h2
   obtain ⟨nI, hnI⟩ : ∃ q, q = (⟨yr, ⟨1, yi, yl⟩⟩ :: I' : List It).length := ⟨_, rfl⟩
   have hnI1 : I'.length = nI - 1 := by rw [hnI]; simp
   have hnI2 : 1 ≤ nI := by rw [hnI]; simp
   have hnI3 : nI ≤ 9 := by rw [hnI]; exact h1
   rw [← hby0, ← hnI]
   obtain ⟨tk, htk⟩ : ∃ q, tok - yl = q := ⟨_, rfl⟩
   refine cd_cut (α := Nat) (fun _ => True) (fun b7 => [(0, .pointer (some ⟨s, 0, none⟩)), (2, .pointer (some ⟨b2, 0, none⟩)), (3, .pointer (some ⟨b3, 0, none⟩)), (4, .int .u64 yr), (5, .pointer (some ⟨b5, 0, none⟩)), (6, .bool true), (7, .pointer (some ⟨b7, 0, none⟩))]) (fun b7 => [pt b7 210 [.int .u64 1000, .int .u64 1000, .int .u64 tk], pt b5 62 [.int .u32 (1 : Nat), .int .u32 yi, .int .u64 yl], pt b3 64 (rep 2 0 0 0 0 0), pt b2 64 (rep 0 0 0 0 0 0), pt s 212 (scs g r tok p (backT cal) now rf), gateI g kd (bkOf cal) nI by0, rankI r kd virt tag, back cal p (⟨yr, ⟨1, yi, yl⟩⟩ :: I') k, tabA]) ?_ ?_
   ·skip
    refine cd_drawA ([pt s 212 (scs g r tok p (backT cal) now rf), pt b5 62 [.int .u32 (1 : Nat), .int .u32 yi, .int .u64 yl]]) [0, 1, 2, 3, 4, 5, 6, 7, 8, 9] 10 4 [11, 12] [0, 0, 0, 3, 0, 3, 2, 0, 0, 0] [2, 0] mixed_ (by kernel_rfl) ?_
    refine opA_y (y_move rfl) rfl ?_
    first | refine opA_y (y_nil rfl) rfl ?_ | refine opA_y (y_nili rfl) rfl ?_ | refine opA_y (y_nilf rfl) rfl ?_
    first | refine opA_y (y_fld Shaper3.fo_212_2 rfl) rfl ?_ | refine opA_y (y_flda Shaper3.fo_212_2 rfl) rfl ?_
    apply opA_ldas Shaper3.ag_210 rfl rfl
    ·exact rm
    ·(first | ((try simp only [zz, splice, Nat.reduceAdd, Nat.zero_mul, Pk.cs, Bk.cs, scs, opv, rep]) <;> rfl) | rfl)
    ·rfl
    ·(first | exact fun w h => h | exact fun w h => h.drop | (intro w h; apply Sat.only (h := h); exact sx))
    first | refine opA_y (y_fld Shaper3.fo_62_2 rfl) rfl ?_ | refine opA_y (y_flda Shaper3.fo_62_2 rfl) rfl ?_
    apply opA_lds Shaper3.sc_22 rfl rfl
    ·exact rm
    ·rfl
    ·(first | exact fun w h => h | exact fun w h => h.drop | (intro w h; apply Sat.only (h := h); exact sx))
    apply opA_c Shaper3.ca_167 rfl rfl rfl (.inr rfl) (fun e he_ => bTakeY_ct e tok yl tk hb (by omega) ht htk)
    ·exact sx
    ·rintro _ _ ⟨rfl, rfl⟩ G_ hG_
     simp only [zn] at hG_; subst hG_
     refine opA_y (y_move rfl) rfl ?_
     first | refine opA_y (y_extl rfl rfl) rfl ?_ | refine opA_y (y_ext rfl rfl) rfl ?_
     first | refine opA_y (y_extl rfl rfl) rfl ?_ | refine opA_y (y_ext rfl rfl) rfl ?_
     refine opA_nil ?_
     refine op_alloc4 Shaper3.ze_210 rfl (by (first | exact fun w h => h | exact fun w h => h.drop | (intro w h; apply Sat.only (h := h); exact sx))) fun b7 => ?_
     apply op_sta Shaper3.sz_210 rfl rfl rfl rfl
     ·exact rm
     ·simp
     ·(first | ((try simp only [zz, splice, Nat.reduceAdd, Nat.zero_mul, Pk.cs, Bk.cs, scs, opv, rep]) <;> rfl) | rfl)
     refine op_y (y_assign rfl) rfl ?_
     refine op_nil ?_
     refine ent_join b7 trivial ⟨rfl, rfl, rfl, rfl, rfl, rfl, rfl, trivial⟩ fun w h => ?_
     apply Sat.only (h := h)
     exact sx
    ·skip
     refine op_alloc4 Shaper3.ze_210 rfl (by (first | exact fun w h => h | exact fun w h => h.drop | (intro w h; apply Sat.only (h := h); exact sx))) fun b7 => ?_
     apply op_c Shaper3.ca_167 rfl rfl (fun e he_ => bTakeY_ct e tok yl tk hb (by omega) ht htk)
     ·exact sx
     rintro _ _ ⟨rfl, rfl⟩ G_ hG_
     simp only [zn] at hG_; subst hG_
     refine op_y (y_move rfl) rfl ?_
     first | refine op_y (y_extl rfl rfl) rfl ?_ | refine op_y (y_ext rfl rfl) rfl ?_
     first | refine op_y (y_extl rfl rfl) rfl ?_ | refine op_y (y_ext rfl rfl) rfl ?_
     apply op_sta Shaper3.sz_210 rfl rfl rfl rfl
     ·exact rm
     ·simp
     ·(first | ((try simp only [zz, splice, Nat.reduceAdd, Nat.zero_mul, Pk.cs, Bk.cs, scs, opv, rep]) <;> rfl) | rfl)
     refine op_y (y_assign rfl) rfl ?_
     refine op_nil ?_
     refine ent_join b7 trivial ⟨rfl, rfl, rfl, rfl, rfl, rfl, rfl, trivial⟩ fun w h => ?_
     apply Sat.only (h := h)
     exact sx
   ·skip
    rintro b7 -
    refine cd_seq ?_
    refine cd_seq ?_
    refine cd_region [0, 0] ?_
    refine op_y (y_move rfl) rfl ?_
    first | refine op_y (y_not (b := true) (r := false) rfl rfl) rfl ?_ | refine op_y (y_not (b := false) (r := true) rfl rfl) rfl ?_ | refine op_y (y_not rfl rfl) rfl ?_
    refine op_nil ?_
    refine ent_then ?_
    refine cd_iff rfl ?_
    refine cd_skip ?_
    refine ent_then ?_
    refine cd_seq ?_
    refine cd_region [0, 1, 0, 0, 2] ?_
    refine op_y (y_move rfl) rfl ?_
    apply op_lda Shaper3.ag_210 rfl rfl
    ·exact rm
    ·(first | ((try simp only [zz, splice, Nat.reduceAdd, Nat.zero_mul, Pk.cs, Bk.cs, scs, opv, rep]) <;> rfl) | rfl)
    ·rfl
    first | refine op_y (y_nil rfl) rfl ?_ | refine op_y (y_nili rfl) rfl ?_ | refine op_y (y_nilf rfl) rfl ?_
    first | refine op_y (y_fld Shaper3.fo_212_2 rfl) rfl ?_ | refine op_y (y_flda Shaper3.fo_212_2 rfl) rfl ?_
    apply op_sta Shaper3.sz_210 rfl rfl rfl rfl
    ·exact rm
    ·simp
    ·(first | ((try simp only [zz, splice, Nat.reduceAdd, Nat.zero_mul, Pk.cs, Bk.cs, scs, opv, rep]) <;> rfl) | rfl)
    refine op_nil ?_
    refine ent_then ?_
    refine cd_seq ?_
    refine cd_region [0, 0, 0, 1, 2] ?_
    refine op_y (y_move rfl) rfl ?_
    first | refine op_y (y_nil rfl) rfl ?_ | refine op_y (y_nili rfl) rfl ?_ | refine op_y (y_nilf rfl) rfl ?_
    first | refine op_y (y_fld Shaper3.fo_212_3 rfl) rfl ?_ | refine op_y (y_flda Shaper3.fo_212_3 rfl) rfl ?_
    apply op_ld Shaper3.sc_206 rfl rfl
    ·exact rm
    ·rfl
    apply op_inv rfl rfl rfl (fun w => pop_inv ..) (fun e he_ => bpop_ct e cal p k (⟨yr, ⟨1, yi, yl⟩⟩ :: I') h1)
    ·exact sx
    rintro _ _ ⟨rfl, rfl⟩ G_ hG_
    simp only [zn] at hG_; subst hG_
    simp only [List.tail_cons]
    refine op_nil ?_
    refine ent_then ?_
    refine cd_seq ?_
    refine cd_draw ([]) [0, 1, 2, 3, 4, 5, 6, 7, 8] [0, 0, 0, 1, 0, 1, 0, 1, 2] mixed_ (by kernel_rfl) ?_
    refine op_y (y_move rfl) rfl ?_
    first | refine op_y (y_nil rfl) rfl ?_ | refine op_y (y_nili rfl) rfl ?_ | refine op_y (y_nilf rfl) rfl ?_
    first | refine op_y (y_fld0 Shaper3.fo_212_0 rfl) rfl ?_ | refine op_y (y_flda Shaper3.fo_212_0 rfl) rfl ?_
    apply op_ld Shaper3.sc_208 rfl rfl
    ·exact rm
    ·rfl
    first | refine op_y (y_fld0 Shaper3.fo_62_0 rfl) rfl ?_ | refine op_y (y_flda Shaper3.fo_62_0 rfl) rfl ?_
    apply op_ld Shaper3.sc_42 rfl rfl
    ·exact rm
    ·rfl
    first | refine op_y (y_fld Shaper3.fo_62_2 rfl) rfl ?_ | refine op_y (y_flda Shaper3.fo_62_2 rfl) rfl ?_
    apply op_ld Shaper3.sc_22 rfl rfl
    ·exact rm
    ·rfl
    apply op_c Shaper3.ca_168 rfl rfl (fun e he_ => gOut_ct e g kd (bkOf cal) nI by0 yl hnI3 hnI2 hby3 hby2)
    ·exact sx
    rintro _ _ ⟨rfl, rfl⟩ G_ hG_
    simp only [zn] at hG_; subst hG_
    refine op_nil ?_
    refine ent_then ?_
    refine cd_seq ?_
    refine cd_region [0, 0, 0, 1, 0, 2] ?_
    refine op_y (y_move rfl) rfl ?_
    first | refine op_y (y_nil rfl) rfl ?_ | refine op_y (y_nili rfl) rfl ?_ | refine op_y (y_nilf rfl) rfl ?_
    first | refine op_y (y_fld Shaper3.fo_212_1 rfl) rfl ?_ | refine op_y (y_flda Shaper3.fo_212_1 rfl) rfl ?_
    apply op_ld Shaper3.sc_209 rfl rfl
    ·exact rm
    ·rfl
    refine op_y (y_move rfl) rfl ?_
    apply op_c Shaper3.ca_169 rfl rfl (fun e he_ => rSent_ct e r kd virt tag yr)
    ·exact sx
    rintro _ _ ⟨rfl, rfl⟩ G_ hG_
    simp only [zn] at hG_; subst hG_
    refine op_nil ?_
    refine ent_then ?_
    refine cd_seq ?_
    refine cd_region [1, 0, 0, 2, 0, 2] ?_
    apply op_lda Shaper3.ag_62 rfl rfl
    ·exact rm
    ·(first | ((try simp only [zz, splice, Nat.reduceAdd, Nat.zero_mul, Pk.cs, Bk.cs, scs, opv, rep]) <;> rfl) | rfl)
    ·rfl
    refine op_y (y_move rfl) rfl ?_
    first | refine op_y (y_fld Shaper3.fo_64_2 rfl) rfl ?_ | refine op_y (y_flda Shaper3.fo_64_2 rfl) rfl ?_
    apply op_sta Shaper3.sz_62 rfl rfl rfl rfl
    ·exact rm
    ·simp
    ·(first | ((try simp only [zz, splice, Nat.reduceAdd, Nat.zero_mul, Pk.cs, Bk.cs, scs, opv, rep]) <;> rfl) | rfl)
    first | refine op_y (y_fld Shaper3.fo_64_3 rfl) rfl ?_ | refine op_y (y_flda Shaper3.fo_64_3 rfl) rfl ?_
    apply op_st1 Shaper3.sz_22 rfl rfl rfl
    ·exact rm
    ·rfl
    ·(first | ((try simp only [zz, splice, Nat.reduceAdd, Nat.zero_mul, Pk.cs, Bk.cs, scs, opv, rep]) <;> rfl) | rfl)
    refine op_nil ?_
    refine ent_then ?_
    refine cd_seq ?_
    refine cd_region [1, 2] ?_
    apply op_lda Shaper3.ag_64 rfl rfl
    ·exact rm
    ·(first | ((try simp only [zz, splice, Nat.reduceAdd, Nat.zero_mul, Pk.cs, Bk.cs, scs, opv, rep]) <;> rfl) | rfl)
    ·rfl
    apply op_sta Shaper3.sz_64 rfl rfl rfl rfl
    ·exact rm
    ·simp
    ·(first | ((try simp only [zz, splice, Nat.reduceAdd, Nat.zero_mul, Pk.cs, Bk.cs, scs, opv, rep]) <;> rfl) | rfl)
    refine op_nil ?_
    refine ent_then ?_
    refine cd_ret ?_
    refine ent_rets (rs := [_]) (vs := [.agg (rep 2 0 (1 : Nat) yi yl yr).toArray]) (.inl rfl) rfl ⟨⟨_, rfl, .inr ⟨_, 42, rfl, rfl, rds_all (by exact rm), rfl⟩⟩, trivial⟩ ⟨_, ⟨rfl, rfl⟩, fun w h => shI_shut ⟨g, r, p, rf⟩ hX ?_⟩
    show Sat [pt s 212 (scs g r (tok - yl) p (backT cal) now rf), gateI g kd (bkOf cal) I'.length (SS.by ⟨I', tok - yl, now, if kd = 1 then yr else virt, tag⟩), rankI r kd (if kd = 1 then yr else virt) tag, back cal p I' k, tabA] c w
    rw [hby1, hnI1, htk]
    apply Sat.only (h := h)
    exact sx
end Go.Proofs.YtfkadaodnaaceaaGreatDoor
/- The shaper does an operation. -/
namespace Go.Proofs.YtfkadaodnaaceaaGreatDoor
open Go Go.SL
theorem Shaper4.ag_64 : aggK Tryz.prog 64 = some 42 := by kernel_rfl
theorem Shaper4.ag_73 : aggK Tryz.prog 73 = some 5 := by kernel_rfl
theorem Shaper4.ag_210 : aggK Tryz.prog 210 = some 3 := by kernel_rfl
theorem Shaper4.ca_106 : callable Tryz.prog 106 = true := by kernel_rfl
theorem Shaper4.ca_107 : callable Tryz.prog 107 = true := by kernel_rfl
theorem Shaper4.ca_108 : callable Tryz.prog 108 = true := by kernel_rfl
theorem Shaper4.ca_109 : callable Tryz.prog 109 = true := by kernel_rfl
theorem Shaper4.ca_110 : callable Tryz.prog 110 = true := by kernel_rfl
theorem Shaper4.fo_64_0 : fieldOff Tryz.prog 64 0 = some 0 := by kernel_rfl
theorem Shaper4.fo_73_0 : fieldOff Tryz.prog 73 0 = some 0 := by kernel_rfl
theorem Shaper4.fo_73_4 : fieldOff Tryz.prog 73 4 = some 4 := by kernel_rfl
theorem Shaper4.fo_212_2 : fieldOff Tryz.prog 212 2 = some 2 := by kernel_rfl
theorem Shaper4.fo_212_3 : fieldOff Tryz.prog 212 3 = some 5 := by kernel_rfl
theorem Shaper4.fo_212_4 : fieldOff Tryz.prog 212 4 = some 6 := by kernel_rfl
theorem Shaper4.pl_64 : placesK Tryz.prog 64 = some [(0, 1), (1, 1), (2, 3), (5, 1), (6, 36)] := by kernel_rfl
theorem Shaper4.sc_3 : scalarT Tryz.prog 3 = true := by kernel_rfl
theorem Shaper4.sc_22 : scalarT Tryz.prog 22 = true := by kernel_rfl
theorem Shaper4.sc_206 : scalarT Tryz.prog 206 = true := by kernel_rfl
theorem Shaper4.sz_22 : sizeK Tryz.prog 22 = some 1 := by kernel_rfl
theorem Shaper4.sz_64 : sizeK Tryz.prog 64 = some 42 := by kernel_rfl
theorem Shaper4.sz_210 : sizeK Tryz.prog 210 = some 3 := by kernel_rfl
theorem Shaper4.un_121 : Tryz.prog.underlying 121 = some (.pointer 212) := by kernel_rfl
theorem Shaper4.un_206 : ∃ ms, Tryz.prog.underlying 206 = some (.interface ms) := ⟨_, Tryz.underlying206⟩
theorem Shaper4.ze_64 : zeroC Tryz.prog 64 = some [.int .i64 0, .int .i64 0, .int .u32 0, .int .u32 0, .int .u64 0, .int .u64 0, .int .u64 0, .int .u64 0, .int .i64 0, .int .u64 0, .int .u64 0, .int .u64 0, .int .u64 0, .int .u64 0, .int .u64 0, .int .u64 0, .int .u64 0, .int .u64 0, .int .u64 0, .int .u64 0, .int .u64 0, .int .u64 0, .int .u64 0, .int .u64 0, .int .u64 0, .int .u64 0, .int .u64 0, .int .u64 0, .int .u64 0, .int .u64 0, .int .u64 0, .int .u64 0, .int .u64 0, .int .u64 0, .int .u64 0, .int .u64 0, .int .u64 0, .int .u64 0, .int .u64 0, .int .u64 0, .int .u64 0, .int .u64 0] := by kernel_rfl
set_option maxRecDepth 100000
set_option maxHeartbeats 1000000
theorem known_ct (c : Cx) (j : Nat) (h : j ≤ 5) : Ct Tryz.prog 106 #[.int .i64 j] c [] fun v L => v = .int .i64 j ∧ L = [] := by
 refine ct_fn (args := [.int .i64 j]) [(0, .int .i64 j)] Tryz.func106 rfl Tryz.ntmps106 rfl ⟨rfl, trivial⟩ ?_
 refine cd_seq ?_
 refine cd_region [0] ?_
 refine op_y (y_assign rfl) rfl ?_
 refine op_nil ?_
 refine ent_then ?_
 refine cd_seq ?_
 refine cd_seq ?_
 refine cd_region [0, 0, 0, 0, 0, 0] ?_
 refine op_y (y_move rfl) rfl ?_
 first | refine op_y (y_lt rfl rfl (decide_eq_true (by omega))) rfl ?_ | refine op_y (y_lt rfl rfl (decide_eq_false (by omega))) rfl ?_ | refine op_y (y_lt rfl rfl rfl) rfl ?_
 refine op_y (y_move rfl) rfl ?_
 first
  | refine op_s1 rfl rfl ⟨rfl, rfl⟩ ?_
  | refine op_s2 rfl rfl ⟨rfl, rfl⟩ ?_
  | (refine op_g rfl rfl ?_
     refine op_y (y_move rfl) rfl ?_)
 first
  | refine op_s1 rfl rfl ⟨rfl, rfl⟩ ?_
  | refine op_s2 rfl rfl ⟨rfl, rfl⟩ ?_
  | (refine op_g rfl rfl ?_
     first | refine op_y (y_gt rfl rfl (decide_eq_true (by omega))) rfl ?_ | refine op_y (y_gt rfl rfl (decide_eq_false (by omega))) rfl ?_ | refine op_y (y_gt rfl rfl rfl) rfl ?_)
 first | refine op_y (y_pickt rfl rfl) rfl ?_ | refine op_y (y_pickf rfl rfl) rfl ?_ | refine op_y (y_pick rfl rfl rfl) rfl ?_
 refine op_nil ?_
 refine ent_then ?_
 refine cd_iff rfl ?_
 refine cd_skip ?_
 refine ent_then ?_
 refine cd_seq ?_
 refine cd_region [0, 0] ?_
 refine op_y (y_move rfl) rfl ?_
 refine op_y (y_assign rfl) rfl ?_
 refine op_nil ?_
 refine ent_then ?_
 refine cd_ret ?_
 refine ent_ret1 rfl rfl ⟨_, ⟨rfl, rfl⟩, fun w h => h⟩
theorem doEnq_ct (c : Cx) (s kd : Nat) (cal : Bool) (k id n : Nat) (x : SS) (hx : SOK x) (hkd : kd = 1 ∨ kd = 2) (hid : id < 4294967296) (hn : n < 18446744073709551616) (hk : k < 18446744073709551615) :
 Ct Tryz.prog 58 #[.pointer (some ⟨s, 0, none⟩), .agg (opv 1 1 id n 0).toArray] c [shI s kd cal k x, tabA]
  fun v L => (x.why n ≠ 0 ∧ v = .agg (rep 1 (x.why n : Nat) 1 id n 0).toArray ∧ L = [shI s kd cal k x, tabA]) ∨
   (x.why n = 0 ∧ v = .agg (rep 1 0 1 id n (rankOf kd x.now x.virt x.tag : Nat)).toArray ∧ L = [shI s kd cal (k + 1) (x.push kd id n), tabA]) := by
 refine ct_fn (args := [.pointer (some ⟨s, 0, none⟩), .agg (opv 1 1 id n 0).toArray]) [(0, .pointer (some ⟨s, 0, none⟩)), (1, .agg (opv 1 1 id n 0).toArray)] Tryz.func58 rfl Tryz.ntmps58 rfl ⟨rfl, rfl, trivial⟩ ?_
 refine cd_seq ?_
 refine cd_region [2, 2] ?_
 refine op_boxa rfl rfl fun b3 => ?_
 refine op_alloc Shaper4.ze_64 rfl fun b4 => ?_
 refine op_nil ?_
 refine ent_then ?_
 refine cd_seq ?_
 refine cd_region [0, 1, 2, 0, 2, 2] ?_
 first | refine op_y (y_fld0 Shaper4.fo_73_0 rfl) rfl ?_ | refine op_y (y_flda Shaper4.fo_73_0 rfl) rfl ?_
 apply op_ld Shaper4.sc_3 rfl rfl
 ·exact rm
 ·rfl
 apply op_c Shaper4.ca_106 rfl rfl (fun e he_ => known_ct e 1 (by decide))
 ·exact sx
 rintro _ _ ⟨rfl, rfl⟩ G_ hG_
 simp only [zn] at hG_; subst hG_
 refine op_openR (A := shI s kd cal k x) (by exact rm) shI_open ?_
 rintro ⟨g, r, p, rf⟩ hX
 simp only []
 apply op_build Shaper4.pl_64 Shaper4.ze_64 rfl rfl
 ·(first | ((try simp [fillL, splice, Value.cells, Pk.cs, Bk.cs, scs, opv, rep]) <;> rfl) | rfl)
 refine op_alloc Shaper4.ze_64 rfl fun b5 => ?_
 apply op_sta Shaper4.sz_64 rfl rfl rfl rfl
 ·exact rm
 ·simp
 ·(first | ((try simp only [zz, splice, Nat.reduceAdd, Nat.zero_mul, Pk.cs, Bk.cs, scs, opv, rep]) <;> rfl) | rfl)
 refine op_nil ?_
 refine ent_then ?_
 refine cd_seq ?_
 refine cd_seq ?_
 refine cd_region [0, 0, 0, 0, 0, 0, 1, 0, 0] ?_
 refine op_y (y_move rfl) rfl ?_
 first | refine op_y (y_peq (r := false) Shaper4.un_121 rfl rfl) rfl ?_ | refine op_y (y_peq (r := true) Shaper4.un_121 rfl rfl) rfl ?_ | refine op_y (y_peq Shaper4.un_121 rfl rfl) rfl ?_
 refine op_y (y_move rfl) rfl ?_
 first
  | refine op_s1 rfl rfl ⟨rfl, rfl⟩ ?_
  | refine op_s2 rfl rfl ⟨rfl, rfl⟩ ?_
  | (refine op_g rfl rfl ?_
     refine op_y (y_move rfl) rfl ?_)
 first
  | refine op_s1 rfl rfl ⟨rfl, rfl⟩ ?_
  | refine op_s2 rfl rfl ⟨rfl, rfl⟩ ?_
  | (refine op_g rfl rfl ?_
     first | refine op_y (y_nil rfl) rfl ?_ | refine op_y (y_nili rfl) rfl ?_ | refine op_y (y_nilf rfl) rfl ?_)
 first
  | refine op_s1 rfl rfl ⟨rfl, rfl⟩ ?_
  | refine op_s2 rfl rfl ⟨rfl, rfl⟩ ?_
  | (refine op_g rfl rfl ?_
     first | refine op_y (y_fld Shaper4.fo_212_3 rfl) rfl ?_ | refine op_y (y_flda Shaper4.fo_212_3 rfl) rfl ?_)
 first
  | refine op_s1 rfl rfl ⟨rfl, rfl⟩ ?_
  | refine op_s2 rfl rfl ⟨rfl, rfl⟩ ?_
  | (refine op_g rfl rfl ?_
     apply op_ld Shaper4.sc_206 rfl rfl
     ·exact rm
     ·rfl)
 first
  | refine op_s1 rfl rfl ⟨rfl, rfl⟩ ?_
  | refine op_s2 rfl rfl ⟨rfl, rfl⟩ ?_
  | (refine op_g rfl rfl ?_
     refine op_y (y_ieqE Shaper4.un_206 rfl) rfl ?_)
 first | refine op_y (y_pickt rfl rfl) rfl ?_ | refine op_y (y_pickf rfl rfl) rfl ?_ | refine op_y (y_pick rfl rfl rfl) rfl ?_
 refine op_nil ?_
 refine ent_then ?_
 refine cd_iff rfl ?_
 refine cd_skip ?_
 refine ent_then ?_
 refine cd_seq ?_
 refine cd_seq ?_
 refine cd_region [0, 1] ?_
 first | refine op_y (y_fld0 Shaper4.fo_64_0 rfl) rfl ?_ | refine op_y (y_flda Shaper4.fo_64_0 rfl) rfl ?_
 apply op_ld Shaper4.sc_3 rfl rfl
 ·exact rm
 ·rfl
 refine op_nil ?_
 refine ent_then ?_
 refine cd_block ?_
 refine cd_seq ?_
 refine cd_region [0, 0] ?_
 first | refine op_y (y_eq rfl rfl (eqT (by omega))) rfl ?_ | refine op_y (y_eq rfl rfl (eqF (by omega))) rfl ?_ | refine op_y (y_eq rfl rfl rfl) rfl ?_
 refine op_y (y_assign rfl) rfl ?_
 refine op_nil ?_
 refine ent_then ?_
 refine cd_ift rfl ?_
 refine cd_to (L' := [shI s kd cal k x, tabA, pt b3 73 (opv 1 1 id n 0), pt b4 64 (rep 0 0 0 0 0 0)]) (fun w h => shI_shut ⟨g, r, p, rf⟩ hX ?_) ?_
 ·apply Sat.only (h := h)
  exact sx
 refine cd_seq ?_
 refine cd_region [0, 1, 2, 2] ?_
 refine op_y (y_move rfl) rfl ?_
 apply op_lda Shaper4.ag_73 rfl rfl
 ·exact rm
 ·(first | ((try simp only [zz, splice, Nat.reduceAdd, Nat.zero_mul, Pk.cs, Bk.cs, scs, opv, rep]) <;> rfl) | rfl)
 ·rfl
 apply op_c Shaper4.ca_107 rfl rfl (fun e he_ => enq_ct e s kd cal k id n x hx hkd hid hn hk)
 ·exact sx
 rintro v _ (⟨hw, rfl, rfl⟩ | ⟨hw, rfl, rfl⟩) G_ hG_
 ·skip
  simp only [zn] at hG_; subst hG_
  obtain ⟨y, hy⟩ : ∃ q, q = x.why n := ⟨_, rfl⟩
  rw [← hy] at hw ⊢
  apply op_sta Shaper4.sz_64 rfl rfl rfl rfl
  ·exact rm
  ·simp
  ·(first | ((try simp only [zz, splice, Nat.reduceAdd, Nat.zero_mul, Pk.cs, Bk.cs, scs, opv, rep]) <;> rfl) | rfl)
  refine op_nil ?_
  refine ent_then ?_
  refine cd_ret ?_
  refine ent_block_ret ?_
  refine ent_thn_ret ?_
  refine ent_rets (rs := [_]) (vs := [.agg (rep 1 y 1 id n 0).toArray]) (.inl rfl) rfl ⟨⟨_, rfl, .inr ⟨_, 42, rfl, rfl, rds_all (by exact rm), rfl⟩⟩, trivial⟩ ⟨_, .inl ⟨hw, rfl, rfl⟩, fun w h => ?_⟩
  apply Sat.only (h := h)
  exact sx
 ·skip
  simp only [zn] at hG_; subst hG_
  obtain ⟨y, hy⟩ : ∃ q, q = rankOf kd x.now x.virt x.tag := ⟨_, rfl⟩
  rw [← hy]
  apply op_sta Shaper4.sz_64 rfl rfl rfl rfl
  ·exact rm
  ·simp
  ·(first | ((try simp only [zz, splice, Nat.reduceAdd, Nat.zero_mul, Pk.cs, Bk.cs, scs, opv, rep]) <;> rfl) | rfl)
  refine op_nil ?_
  refine ent_then ?_
  refine cd_ret ?_
  refine ent_block_ret ?_
  refine ent_thn_ret ?_
  refine ent_rets (rs := [_]) (vs := [.agg (rep 1 0 1 id n y).toArray]) (.inl rfl) rfl ⟨⟨_, rfl, .inr ⟨_, 42, rfl, rfl, rds_all (by exact rm), rfl⟩⟩, trivial⟩ ⟨_, .inr ⟨hw, rfl, rfl⟩, fun w h => ?_⟩
  apply Sat.only (h := h)
  exact sx
theorem headV_len (kd : Nat) (x : SS) : (headV kd x).length = 42 := by
 unfold headV
 repeat' split
 all_goals rfl
theorem headV_ones (kd : Nat) (x : SS) : ones (headV kd x) = true := by
 unfold headV
 repeat' split
 all_goals rfl
theorem doDeq_ct (c : Cx) (s kd : Nat) (cal : Bool) (k : Nat) (x : SS) (hx : SOK x) :
 Ct Tryz.prog 58 #[.pointer (some ⟨s, 0, none⟩), .agg (opv 2 0 0 0 0).toArray] c [shI s kd cal k x, tabA]
  fun v L => v = .agg (headV kd x).toArray ∧ L = [shI s kd cal k (if x.out = 0 then x.pop kd else x), tabA] := by
 refine ct_fn (args := [.pointer (some ⟨s, 0, none⟩), .agg (opv 2 0 0 0 0).toArray]) [(0, .pointer (some ⟨s, 0, none⟩)), (1, .agg (opv 2 0 0 0 0).toArray)] Tryz.func58 rfl Tryz.ntmps58 rfl ⟨rfl, rfl, trivial⟩ ?_
 have hvl := headV_len kd x
 have hvo := headV_ones kd x
 refine cd_seq ?_
 refine cd_region [2, 2] ?_
 refine op_boxa rfl rfl fun b3 => ?_
 refine op_alloc Shaper4.ze_64 rfl fun b4 => ?_
 refine op_nil ?_
 refine ent_then ?_
 refine cd_seq ?_
 refine cd_region [0, 1, 2, 0, 2, 2] ?_
 first | refine op_y (y_fld0 Shaper4.fo_73_0 rfl) rfl ?_ | refine op_y (y_flda Shaper4.fo_73_0 rfl) rfl ?_
 apply op_ld Shaper4.sc_3 rfl rfl
 ·exact rm
 ·rfl
 apply op_c Shaper4.ca_106 rfl rfl (fun e he_ => known_ct e 2 (by decide))
 ·exact sx
 rintro _ _ ⟨rfl, rfl⟩ G_ hG_
 simp only [zn] at hG_; subst hG_
 refine op_openR (A := shI s kd cal k x) (by exact rm) shI_open ?_
 rintro ⟨g, r, p, rf⟩ hX
 simp only []
 apply op_build Shaper4.pl_64 Shaper4.ze_64 rfl rfl
 ·(first | ((try simp [fillL, splice, Value.cells, Pk.cs, Bk.cs, scs, opv, rep]) <;> rfl) | rfl)
 refine op_alloc Shaper4.ze_64 rfl fun b5 => ?_
 apply op_sta Shaper4.sz_64 rfl rfl rfl rfl
 ·exact rm
 ·simp
 ·(first | ((try simp only [zz, splice, Nat.reduceAdd, Nat.zero_mul, Pk.cs, Bk.cs, scs, opv, rep]) <;> rfl) | rfl)
 refine op_nil ?_
 refine ent_then ?_
 refine cd_seq ?_
 refine cd_seq ?_
 refine cd_region [0, 0, 0, 0, 0, 0, 1, 0, 0] ?_
 refine op_y (y_move rfl) rfl ?_
 first | refine op_y (y_peq (r := false) Shaper4.un_121 rfl rfl) rfl ?_ | refine op_y (y_peq (r := true) Shaper4.un_121 rfl rfl) rfl ?_ | refine op_y (y_peq Shaper4.un_121 rfl rfl) rfl ?_
 refine op_y (y_move rfl) rfl ?_
 first
  | refine op_s1 rfl rfl ⟨rfl, rfl⟩ ?_
  | refine op_s2 rfl rfl ⟨rfl, rfl⟩ ?_
  | (refine op_g rfl rfl ?_
     refine op_y (y_move rfl) rfl ?_)
 first
  | refine op_s1 rfl rfl ⟨rfl, rfl⟩ ?_
  | refine op_s2 rfl rfl ⟨rfl, rfl⟩ ?_
  | (refine op_g rfl rfl ?_
     first | refine op_y (y_nil rfl) rfl ?_ | refine op_y (y_nili rfl) rfl ?_ | refine op_y (y_nilf rfl) rfl ?_)
 first
  | refine op_s1 rfl rfl ⟨rfl, rfl⟩ ?_
  | refine op_s2 rfl rfl ⟨rfl, rfl⟩ ?_
  | (refine op_g rfl rfl ?_
     first | refine op_y (y_fld Shaper4.fo_212_3 rfl) rfl ?_ | refine op_y (y_flda Shaper4.fo_212_3 rfl) rfl ?_)
 first
  | refine op_s1 rfl rfl ⟨rfl, rfl⟩ ?_
  | refine op_s2 rfl rfl ⟨rfl, rfl⟩ ?_
  | (refine op_g rfl rfl ?_
     apply op_ld Shaper4.sc_206 rfl rfl
     ·exact rm
     ·rfl)
 first
  | refine op_s1 rfl rfl ⟨rfl, rfl⟩ ?_
  | refine op_s2 rfl rfl ⟨rfl, rfl⟩ ?_
  | (refine op_g rfl rfl ?_
     refine op_y (y_ieqE Shaper4.un_206 rfl) rfl ?_)
 first | refine op_y (y_pickt rfl rfl) rfl ?_ | refine op_y (y_pickf rfl rfl) rfl ?_ | refine op_y (y_pick rfl rfl rfl) rfl ?_
 refine op_nil ?_
 refine ent_then ?_
 refine cd_iff rfl ?_
 refine cd_skip ?_
 refine ent_then ?_
 refine cd_seq ?_
 refine cd_seq ?_
 refine cd_region [0, 1] ?_
 first | refine op_y (y_fld0 Shaper4.fo_64_0 rfl) rfl ?_ | refine op_y (y_flda Shaper4.fo_64_0 rfl) rfl ?_
 apply op_ld Shaper4.sc_3 rfl rfl
 ·exact rm
 ·rfl
 refine op_nil ?_
 refine ent_then ?_
 refine cd_block ?_
 refine cd_seq ?_
 refine cd_region [0, 0] ?_
 first | refine op_y (y_eq rfl rfl (eqT (by omega))) rfl ?_ | refine op_y (y_eq rfl rfl (eqF (by omega))) rfl ?_ | refine op_y (y_eq rfl rfl rfl) rfl ?_
 refine op_y (y_assign rfl) rfl ?_
 refine op_nil ?_
 refine ent_then ?_
 refine cd_iff rfl ?_
 refine cd_seq ?_
 refine cd_region [0, 0] ?_
 first | refine op_y (y_eq rfl rfl (eqT (by omega))) rfl ?_ | refine op_y (y_eq rfl rfl (eqF (by omega))) rfl ?_ | refine op_y (y_eq rfl rfl rfl) rfl ?_
 refine op_y (y_assign rfl) rfl ?_
 refine op_nil ?_
 refine ent_then ?_
 refine cd_ift rfl ?_
 refine cd_to (L' := [shI s kd cal k x, tabA, pt b3 73 (opv 2 0 0 0 0), pt b4 64 (rep 0 0 0 0 0 0)]) (fun w h => shI_shut ⟨g, r, p, rf⟩ hX ?_) ?_
 ·apply Sat.only (h := h)
  exact sx
 refine cd_seq ?_
 refine cd_region [0, 2, 2] ?_
 refine op_y (y_move rfl) rfl ?_
 apply op_c Shaper4.ca_108 rfl rfl (fun e he_ => deq_ct e s kd cal k x hx)
 ·exact sx
 rintro _ _ ⟨rfl, rfl⟩ G_ hG_
 simp only [zn] at hG_; subst hG_
 apply op_sta Shaper4.sz_64 rfl rfl hvl hvo
 ·exact rm
 ·simp
 ·exact (show splice _ 0 (headV kd x) = headV kd x by unfold splice; rw [hvl]; simp)
 refine op_nil ?_
 refine ent_then ?_
 refine cd_ret ?_
 refine ent_block_ret ?_
 refine ent_thn_ret ?_
 refine ent_rets (rs := [_]) (vs := [.agg (headV kd x).toArray]) (.inl rfl) rfl ⟨⟨_, rfl, .inr ⟨_, 42, rfl, hvl, rds_all (by exact rm), rfl⟩⟩, trivial⟩ ⟨_, ⟨rfl, rfl⟩, fun w h => ?_⟩
 apply Sat.only (h := h)
 exact sx
theorem bTickL_ct (c : Cx) (tok t m : Nat) (hb : Bk.ok ⟨1000, 1000, tok⟩) (ht : t < 18446744073709551616) (hm : min (satAdd tok (satMul 1000 t)) 1000 = m) : Ct Tryz.prog 110 #[.agg (Bk.cs ⟨1000, 1000, tok⟩).toArray, .int .u64 t] c []
 fun v L => v = .agg [Value.int .u64 1000, .int .u64 1000, .int .u64 m].toArray ∧ L = [] :=
 (bTick_ct c ⟨1000, 1000, tok⟩ t hb ht).mono fun v L ⟨h1, h2⟩ => ⟨by rw [h1, ← hm]; rfl, h2⟩
theorem doTick_ct (c : Cx) (s kd : Nat) (cal : Bool) (k t : Nat) (x : SS) (hx : SOK x) (ht : t < 18446744073709551616) :
 Ct Tryz.prog 58 #[.pointer (some ⟨s, 0, none⟩), .agg (opv 3 0 0 0 t).toArray] c [shI s kd cal k x]
  fun v L => v = .agg (rep 3 0 0 0 0 0).toArray ∧ L = [shI s kd cal k (x.tick t)] := by
 obtain ⟨I, tok, now, virt, tag⟩ := x
 have hb : Bk.ok ⟨1000, 1000, tok⟩ := ⟨by simp, by simp, hx.tok, by simp, by simp⟩
 have hnow := hx.now
 simp only at hnow
 refine ct_fn (args := [.pointer (some ⟨s, 0, none⟩), .agg (opv 3 0 0 0 t).toArray]) [(0, .pointer (some ⟨s, 0, none⟩)), (1, .agg (opv 3 0 0 0 t).toArray)] Tryz.func58 rfl Tryz.ntmps58 rfl ⟨rfl, rfl, trivial⟩ ?_
 refine cd_seq ?_
 refine cd_region [2, 2] ?_
 refine op_boxa rfl rfl fun b3 => ?_
 refine op_alloc Shaper4.ze_64 rfl fun b4 => ?_
 refine op_nil ?_
 refine ent_then ?_
 refine cd_seq ?_
 refine cd_region [0, 1, 2, 0, 2, 2] ?_
 first | refine op_y (y_fld0 Shaper4.fo_73_0 rfl) rfl ?_ | refine op_y (y_flda Shaper4.fo_73_0 rfl) rfl ?_
 apply op_ld Shaper4.sc_3 rfl rfl
 ·exact rm
 ·rfl
 apply op_c Shaper4.ca_106 rfl rfl (fun e he_ => known_ct e 3 (by decide))
 ·exact sx
 rintro _ _ ⟨rfl, rfl⟩ G_ hG_
 simp only [zn] at hG_; subst hG_
 refine op_openR (A := shI s kd cal k ⟨I, tok, now, virt, tag⟩) (by exact rm) shI_open ?_
 rintro ⟨g, r, p, rf⟩ hX
 simp only []
 obtain ⟨tk, htk⟩ : ∃ q, min (satAdd tok (satMul 1000 t)) 1000 = q := ⟨_, rfl⟩
 apply op_build Shaper4.pl_64 Shaper4.ze_64 rfl rfl
 ·(first | ((try simp [fillL, splice, Value.cells, Pk.cs, Bk.cs, scs, opv, rep]) <;> rfl) | rfl)
 refine op_alloc Shaper4.ze_64 rfl fun b5 => ?_
 apply op_sta Shaper4.sz_64 rfl rfl rfl rfl
 ·exact rm
 ·simp
 ·(first | ((try simp only [zz, splice, Nat.reduceAdd, Nat.zero_mul, Pk.cs, Bk.cs, scs, opv, rep]) <;> rfl) | rfl)
 refine op_nil ?_
 refine ent_then ?_
 refine cd_seq ?_
 refine cd_seq ?_
 refine cd_region [0, 0, 0, 0, 0, 0, 1, 0, 0] ?_
 refine op_y (y_move rfl) rfl ?_
 first | refine op_y (y_peq (r := false) Shaper4.un_121 rfl rfl) rfl ?_ | refine op_y (y_peq (r := true) Shaper4.un_121 rfl rfl) rfl ?_ | refine op_y (y_peq Shaper4.un_121 rfl rfl) rfl ?_
 refine op_y (y_move rfl) rfl ?_
 first
  | refine op_s1 rfl rfl ⟨rfl, rfl⟩ ?_
  | refine op_s2 rfl rfl ⟨rfl, rfl⟩ ?_
  | (refine op_g rfl rfl ?_
     refine op_y (y_move rfl) rfl ?_)
 first
  | refine op_s1 rfl rfl ⟨rfl, rfl⟩ ?_
  | refine op_s2 rfl rfl ⟨rfl, rfl⟩ ?_
  | (refine op_g rfl rfl ?_
     first | refine op_y (y_nil rfl) rfl ?_ | refine op_y (y_nili rfl) rfl ?_ | refine op_y (y_nilf rfl) rfl ?_)
 first
  | refine op_s1 rfl rfl ⟨rfl, rfl⟩ ?_
  | refine op_s2 rfl rfl ⟨rfl, rfl⟩ ?_
  | (refine op_g rfl rfl ?_
     first | refine op_y (y_fld Shaper4.fo_212_3 rfl) rfl ?_ | refine op_y (y_flda Shaper4.fo_212_3 rfl) rfl ?_)
 first
  | refine op_s1 rfl rfl ⟨rfl, rfl⟩ ?_
  | refine op_s2 rfl rfl ⟨rfl, rfl⟩ ?_
  | (refine op_g rfl rfl ?_
     apply op_ld Shaper4.sc_206 rfl rfl
     ·exact rm
     ·rfl)
 first
  | refine op_s1 rfl rfl ⟨rfl, rfl⟩ ?_
  | refine op_s2 rfl rfl ⟨rfl, rfl⟩ ?_
  | (refine op_g rfl rfl ?_
     refine op_y (y_ieqE Shaper4.un_206 rfl) rfl ?_)
 first | refine op_y (y_pickt rfl rfl) rfl ?_ | refine op_y (y_pickf rfl rfl) rfl ?_ | refine op_y (y_pick rfl rfl rfl) rfl ?_
 refine op_nil ?_
 refine ent_then ?_
 refine cd_iff rfl ?_
 refine cd_skip ?_
 refine ent_then ?_
 refine cd_seq ?_
 refine cd_seq ?_
 refine cd_region [0, 1] ?_
 first | refine op_y (y_fld0 Shaper4.fo_64_0 rfl) rfl ?_ | refine op_y (y_flda Shaper4.fo_64_0 rfl) rfl ?_
 apply op_ld Shaper4.sc_3 rfl rfl
 ·exact rm
 ·rfl
 refine op_nil ?_
 refine ent_then ?_
 refine cd_block ?_
 refine cd_seq ?_
 refine cd_region [0, 0] ?_
 first | refine op_y (y_eq rfl rfl (eqT (by omega))) rfl ?_ | refine op_y (y_eq rfl rfl (eqF (by omega))) rfl ?_ | refine op_y (y_eq rfl rfl rfl) rfl ?_
 refine op_y (y_assign rfl) rfl ?_
 refine op_nil ?_
 refine ent_then ?_
 refine cd_iff rfl ?_
 refine cd_seq ?_
 refine cd_region [0, 0] ?_
 first | refine op_y (y_eq rfl rfl (eqT (by omega))) rfl ?_ | refine op_y (y_eq rfl rfl (eqF (by omega))) rfl ?_ | refine op_y (y_eq rfl rfl rfl) rfl ?_
 refine op_y (y_assign rfl) rfl ?_
 refine op_nil ?_
 refine ent_then ?_
 refine cd_iff rfl ?_
 refine cd_seq ?_
 refine cd_region [0, 0] ?_
 first | refine op_y (y_eq rfl rfl (eqT (by omega))) rfl ?_ | refine op_y (y_eq rfl rfl (eqF (by omega))) rfl ?_ | refine op_y (y_eq rfl rfl rfl) rfl ?_
 refine op_y (y_assign rfl) rfl ?_
 refine op_nil ?_
 refine ent_then ?_
 refine cd_ift rfl ?_
 refine cd_seq ?_
 refine cd_draw ([]) [0, 1, 2, 3, 4, 5, 6, 7, 8, 9, 10] [0, 0, 0, 0, 1, 0, 1, 2, 0, 0, 2] mixed_ (by kernel_rfl) ?_
 refine op_y (y_move rfl) rfl ?_
 refine op_y (y_move rfl) rfl ?_
 first | refine op_y (y_nil rfl) rfl ?_ | refine op_y (y_nili rfl) rfl ?_ | refine op_y (y_nilf rfl) rfl ?_
 first | refine op_y (y_fld Shaper4.fo_212_4 rfl) rfl ?_ | refine op_y (y_flda Shaper4.fo_212_4 rfl) rfl ?_
 apply op_ld Shaper4.sc_22 rfl rfl
 ·exact rm
 ·rfl
 first | refine op_y (y_fld Shaper4.fo_73_4 rfl) rfl ?_ | refine op_y (y_flda Shaper4.fo_73_4 rfl) rfl ?_
 apply op_ld Shaper4.sc_22 rfl rfl
 ·exact rm
 ·rfl
 apply op_c Shaper4.ca_109 rfl rfl (fun e he_ => satAdd_ct e now t hnow ht)
 ·exact sx
 rintro _ _ ⟨rfl, rfl⟩ G_ hG_
 simp only [zn] at hG_; subst hG_
 first | refine op_y (y_nil rfl) rfl ?_ | refine op_y (y_nili rfl) rfl ?_ | refine op_y (y_nilf rfl) rfl ?_
 first | refine op_y (y_fld Shaper4.fo_212_4 rfl) rfl ?_ | refine op_y (y_flda Shaper4.fo_212_4 rfl) rfl ?_
 apply op_st1 Shaper4.sz_22 rfl rfl rfl
 ·exact rm
 ·rfl
 ·(first | ((try simp only [zz, splice, Nat.reduceAdd, Nat.zero_mul, Pk.cs, Bk.cs, scs, opv, rep]) <;> rfl) | rfl)
 refine op_nil ?_
 refine ent_then ?_
 refine cd_draw ([]) [0, 1, 2, 3, 4, 5, 6, 7, 8, 9, 10] [0, 0, 0, 0, 1, 0, 1, 2, 0, 0, 2] mixed_ (by kernel_rfl) ?_
 refine op_y (y_move rfl) rfl ?_
 refine op_y (y_move rfl) rfl ?_
 first | refine op_y (y_nil rfl) rfl ?_ | refine op_y (y_nili rfl) rfl ?_ | refine op_y (y_nilf rfl) rfl ?_
 first | refine op_y (y_fld Shaper4.fo_212_2 rfl) rfl ?_ | refine op_y (y_flda Shaper4.fo_212_2 rfl) rfl ?_
 apply op_lda Shaper4.ag_210 rfl rfl
 ·exact rm
 ·(first | ((try simp only [zz, splice, Nat.reduceAdd, Nat.zero_mul, Pk.cs, Bk.cs, scs, opv, rep]) <;> rfl) | rfl)
 ·rfl
 first | refine op_y (y_fld Shaper4.fo_73_4 rfl) rfl ?_ | refine op_y (y_flda Shaper4.fo_73_4 rfl) rfl ?_
 apply op_ld Shaper4.sc_22 rfl rfl
 ·exact rm
 ·rfl
 apply op_c Shaper4.ca_110 rfl rfl (fun e he_ => bTickL_ct e tok t tk hb ht htk)
 ·exact sx
 rintro _ _ ⟨rfl, rfl⟩ G_ hG_
 simp only [zn] at hG_; subst hG_
 first | refine op_y (y_nil rfl) rfl ?_ | refine op_y (y_nili rfl) rfl ?_ | refine op_y (y_nilf rfl) rfl ?_
 first | refine op_y (y_fld Shaper4.fo_212_2 rfl) rfl ?_ | refine op_y (y_flda Shaper4.fo_212_2 rfl) rfl ?_
 apply op_sta Shaper4.sz_210 rfl rfl rfl rfl
 ·exact rm
 ·simp
 ·(first | ((try simp only [zz, splice, Nat.reduceAdd, Nat.zero_mul, Pk.cs, Bk.cs, scs, opv, rep]) <;> rfl) | rfl)
 refine op_nil ?_
 refine ent_block ?_
 refine ent_then ?_
 refine cd_seq ?_
 refine cd_region [1, 2] ?_
 apply op_lda Shaper4.ag_64 rfl rfl
 ·exact rm
 ·(first | ((try simp only [zz, splice, Nat.reduceAdd, Nat.zero_mul, Pk.cs, Bk.cs, scs, opv, rep]) <;> rfl) | rfl)
 ·rfl
 apply op_sta Shaper4.sz_64 rfl rfl rfl rfl
 ·exact rm
 ·simp
 ·(first | ((try simp only [zz, splice, Nat.reduceAdd, Nat.zero_mul, Pk.cs, Bk.cs, scs, opv, rep]) <;> rfl) | rfl)
 refine op_nil ?_
 refine ent_then ?_
 refine cd_ret ?_
 refine ent_rets (rs := [_]) (vs := [.agg (rep 3 0 0 0 0 0).toArray]) (.inl rfl) rfl ⟨⟨_, rfl, .inr ⟨_, 42, rfl, rfl, rds_all (by exact rm), rfl⟩⟩, trivial⟩ ⟨_, ⟨rfl, rfl⟩, fun w h => shI_shut ⟨g, r, p, rf⟩ hX ?_⟩
 show Sat [pt s 212 (scs g r (min (satAdd tok (satMul 1000 t)) 1000) p (backT cal) (satAdd now t) rf), gateI g kd (bkOf cal) I.length (SS.by ⟨I, tok, now, virt, tag⟩), rankI r kd virt tag, back cal p I k] c w
 rw [htk]
 apply Sat.only (h := h)
 exact sx
end Go.Proofs.YtfkadaodnaaceaaGreatDoor
/- A port of one flow, without a meter. -/
namespace Go.Proofs.YtfkadaodnaaceaaGreatDoor
open Go Go.SL
theorem Port.ag_44 : aggK Tryz.prog 44 = some 7 := by kernel_rfl
theorem Port.ca_44 : callable Tryz.prog 44 = true := by kernel_rfl
theorem Port.ca_46 : callable Tryz.prog 46 = true := by kernel_rfl
theorem Port.ca_55 : callable Tryz.prog 55 = true := by kernel_rfl
theorem Port.ca_56 : callable Tryz.prog 56 = true := by kernel_rfl
theorem Port.ca_58 : callable Tryz.prog 58 = true := by kernel_rfl
theorem Port.fo_62_1 : fieldOff Tryz.prog 62 1 = some 1 := by kernel_rfl
theorem Port.fo_64_1 : fieldOff Tryz.prog 64 1 = some 1 := by kernel_rfl
theorem Port.fo_64_2 : fieldOff Tryz.prog 64 2 = some 2 := by kernel_rfl
theorem Port.fo_123_0 : fieldOff Tryz.prog 123 0 = some 0 := by kernel_rfl
theorem Port.fo_125_0 : fieldOff Tryz.prog 125 0 = some 0 := by kernel_rfl
theorem Port.fo_125_1 : fieldOff Tryz.prog 125 1 = some 1 := by kernel_rfl
theorem Port.fo_125_2 : fieldOff Tryz.prog 125 2 = some 2 := by kernel_rfl
theorem Port.fo_125_4 : fieldOff Tryz.prog 125 4 = some 8 := by kernel_rfl
theorem Port.fo_125_5 : fieldOff Tryz.prog 125 5 = some 9 := by kernel_rfl
theorem Port.pl_73 : placesK Tryz.prog 73 = some [(0, 1), (1, 1), (2, 1), (3, 1), (4, 1)] := by kernel_rfl
theorem Port.sc_22 : scalarT Tryz.prog 22 = true := by kernel_rfl
theorem Port.sc_33 : scalarT Tryz.prog 33 = true := by kernel_rfl
theorem Port.sc_42 : scalarT Tryz.prog 42 = true := by kernel_rfl
theorem Port.sc_120 : scalarT Tryz.prog 120 = true := by kernel_rfl
theorem Port.sc_121 : scalarT Tryz.prog 121 = true := by kernel_rfl
theorem Port.sc_122 : scalarT Tryz.prog 122 = true := by kernel_rfl
theorem Port.sz_42 : sizeK Tryz.prog 42 = some 1 := by kernel_rfl
theorem Port.sz_44 : sizeK Tryz.prog 44 = some 7 := by kernel_rfl
theorem Port.sz_64 : sizeK Tryz.prog 64 = some 42 := by kernel_rfl
theorem Port.un_3 : Tryz.prog.underlying 3 = some (.int .i64) := by kernel_rfl
theorem Port.un_9 : Tryz.prog.underlying 9 = some (.string) := by kernel_rfl
theorem Port.un_22 : Tryz.prog.underlying 22 = some (.int .u64) := by kernel_rfl
theorem Port.un_32 : Tryz.prog.underlying 32 = some (.pointer 125) := by kernel_rfl
theorem Port.un_42 : Tryz.prog.underlying 42 = some (.int .u32) := by kernel_rfl
theorem Port.un_120 : Tryz.prog.underlying 120 = some (.map 42 9) := by kernel_rfl
theorem Port.un_121 : Tryz.prog.underlying 121 = some (.pointer 212) := by kernel_rfl
theorem Port.ze_44 : zeroC Tryz.prog 44 = some [.int .u8 0, .int .u16 0, .int .u8 0, .int .u32 0, .int .u32 0, .int .u16 0, .int .u16 0] := by kernel_rfl
theorem Port.ze_64 : zeroC Tryz.prog 64 = some [.int .i64 0, .int .i64 0, .int .u32 0, .int .u32 0, .int .u64 0, .int .u64 0, .int .u64 0, .int .u64 0, .int .i64 0, .int .u64 0, .int .u64 0, .int .u64 0, .int .u64 0, .int .u64 0, .int .u64 0, .int .u64 0, .int .u64 0, .int .u64 0, .int .u64 0, .int .u64 0, .int .u64 0, .int .u64 0, .int .u64 0, .int .u64 0, .int .u64 0, .int .u64 0, .int .u64 0, .int .u64 0, .int .u64 0, .int .u64 0, .int .u64 0, .int .u64 0, .int .u64 0, .int .u64 0, .int .u64 0, .int .u64 0, .int .u64 0, .int .u64 0, .int .u64 0, .int .u64 0, .int .u64 0, .int .u64 0] := by kernel_rfl
theorem Port.ze_73 : zeroC Tryz.prog 73 = some [.int .i64 0, .int .u32 0, .int .u32 0, .int .u64 0, .int .u64 0] := by kernel_rfl
theorem Port.zi_9 : (Tryz.prog.info? 9).bind (·.zero) = some (.string ⟨#[]⟩) := by kernel_rfl
set_option maxRecDepth 100000
set_option maxHeartbeats 1000000
abbrev pcs_ (s rt mb num : Nat) : List Value := [.pointer (some ⟨s, 0, none⟩), .pointer (some ⟨rt, 0, none⟩), .int .u64 0, .int .u64 0, .int .u64 0, .int .u64 0, .int .u64 0, .int .u8 0, .map (some mb), .int .u32 num]
abbrev MV := List (Int × Value)
structure PX where
 s : Nat
 rt : Nat
 mb : Nat
/-- A port at block p: what its shaper keeps, the datagrams that wait, how many arrived. -/
def portI (p kd : Nat) (cal : Bool) (x : SS) (M : MV) (num : Nat) : As := fun h => ∃ X : PX, sepL [pt p 125 (pcs_ X.s X.rt X.mb num), shI X.s kd cal num x, rulesI X.rt, mp X.mb .u32 M] h
theorem portI_open {p kd num : Nat} {cal : Bool} {x : SS} {M : MV} {F : List As} {c : Cx} (w : World) (h : Sat (portI p kd cal x M num :: F) c w) : ∃ X : PX, True ∧ Sat (pt p 125 (pcs_ X.s X.rt X.mb num) :: shI X.s kd cal num x :: rulesI X.rt :: mp X.mb .u32 M :: F) c w := by
 obtain ⟨h1, ⟨x, hs⟩, d, k⟩ := h
 exact ⟨x, trivial, Sat.sepL_iff.1 ⟨h1, hs, d, k⟩⟩
theorem portI_shut {p kd num : Nat} {cal : Bool} {x : SS} {M : MV} {F : List As} {c : Cx} {w : World} (X : PX) (h : Sat (pt p 125 (pcs_ X.s X.rt X.mb num) :: shI X.s kd cal num x :: rulesI X.rt :: mp X.mb .u32 M :: F) c w) : Sat (portI p kd cal x M num :: F) c w := by
 obtain ⟨h1, hs, d, k⟩ := Sat.sepL_iff.2 (show Sat ([_, _, _, _] ++ F) c w from h)
 exact ⟨h1, ⟨X, hs⟩, d, k⟩
theorem number_ct (c : Cx) (p kd num : Nat) (cal : Bool) (x : SS) (M : MV) : Ct Tryz.prog 23 #[.pointer (some ⟨p, 0, none⟩)] c [portI p kd cal x M num] fun v L => v = .int .u32 num ∧ L = [portI p kd cal x M num] := by
 refine ct_fn (args := [.pointer (some ⟨p, 0, none⟩)]) [(0, .pointer (some ⟨p, 0, none⟩))] Tryz.func23 rfl Tryz.ntmps23 rfl ⟨rfl, trivial⟩ ?_
 refine cd_open portI_open ?_
 rintro ⟨s, rt, mb⟩ -
 simp only []
 refine cd_seq ?_
 refine cd_region [0] ?_
 refine op_y (y_assign rfl) rfl ?_
 refine op_nil ?_
 refine ent_then ?_
 refine cd_seq ?_
 refine cd_seq ?_
 refine cd_region [0, 0] ?_
 refine op_y (y_move rfl) rfl ?_
 first | refine op_y (y_peq (r := false) Port.un_32 rfl rfl) rfl ?_ | refine op_y (y_peq (r := true) Port.un_32 rfl rfl) rfl ?_ | refine op_y (y_peq Port.un_32 rfl rfl) rfl ?_
 refine op_nil ?_
 refine ent_then ?_
 refine cd_iff rfl ?_
 refine cd_skip ?_
 refine ent_then ?_
 refine cd_seq ?_
 refine cd_region [0, 0, 0, 1, 0] ?_
 refine op_y (y_move rfl) rfl ?_
 first | refine op_y (y_nil rfl) rfl ?_ | refine op_y (y_nili rfl) rfl ?_ | refine op_y (y_nilf rfl) rfl ?_
 first | refine op_y (y_fld Port.fo_125_5 rfl) rfl ?_ | refine op_y (y_flda Port.fo_125_5 rfl) rfl ?_
 apply op_ld Port.sc_42 rfl rfl
 ·exact rm
 ·rfl
 refine op_y (y_assign rfl) rfl ?_
 refine op_nil ?_
 refine ent_then ?_
 refine cd_ret ?_
 refine ent_ret1 rfl rfl ⟨_, ⟨rfl, rfl⟩, fun w h => portI_shut ⟨s, rt, mb⟩ ?_⟩
 apply Sat.only (h := h)
 exact sx
theorem colour_ct (c : Cx) (p s rt mb num n : Nat) : Ct Tryz.prog 56 #[.pointer (some ⟨p, 0, none⟩), .int .u64 n] c [pt p 125 (pcs_ s rt mb num)] fun v L => v = .int .i64 1 ∧ L = [pt p 125 (pcs_ s rt mb num)] := by
 refine ct_fn (args := [.pointer (some ⟨p, 0, none⟩), .int .u64 n]) [(0, .pointer (some ⟨p, 0, none⟩)), (1, .int .u64 n)] Tryz.func56 rfl Tryz.ntmps56 rfl ⟨rfl, rfl, trivial⟩ ?_
 refine cd_seq ?_
 refine cd_region [0] ?_
 refine op_y (y_assign rfl) rfl ?_
 refine op_nil ?_
 refine ent_then ?_
 refine cd_seq ?_
 refine cd_seq ?_
 refine cd_region [0, 0, 0, 0, 1, 0] ?_
 refine op_y (y_move rfl) rfl ?_
 first | refine op_y (y_nil rfl) rfl ?_ | refine op_y (y_nili rfl) rfl ?_ | refine op_y (y_nilf rfl) rfl ?_
 first | refine op_y (y_fld Port.fo_125_2 rfl) rfl ?_ | refine op_y (y_flda Port.fo_125_2 rfl) rfl ?_
 first | refine op_y (y_fld0 Port.fo_123_0 rfl) rfl ?_ | refine op_y (y_flda Port.fo_123_0 rfl) rfl ?_
 apply op_ld Port.sc_22 rfl rfl
 ·exact rm
 ·rfl
 first | refine op_y (y_eq rfl rfl (eqT (by omega))) rfl ?_ | refine op_y (y_eq rfl rfl (eqF (by omega))) rfl ?_ | refine op_y (y_eq rfl rfl rfl) rfl ?_
 refine op_nil ?_
 refine ent_then ?_
 refine cd_ift rfl ?_
 refine cd_seq ?_
 refine cd_region [0] ?_
 refine op_y (y_assign rfl) rfl ?_
 refine op_nil ?_
 refine ent_then ?_
 refine cd_ret ?_
 refine ent_thn_ret ?_
 refine ent_ret1 rfl rfl ⟨_, ⟨rfl, rfl⟩, fun w h => h⟩
theorem tick_ct (c : Cx) (p kd num t : Nat) (cal : Bool) (x : SS) (M : MV) (hx : SOK x) (ht : t < 18446744073709551616) : Ct Tryz.prog 17 #[.pointer (some ⟨p, 0, none⟩), .int .u64 t] c [portI p kd cal x M num]
 fun v L => v = .tuple #[] ∧ L = [portI p kd cal (x.tick t) M num] := by
 refine ct_fn (args := [.pointer (some ⟨p, 0, none⟩), .int .u64 t]) [(0, .pointer (some ⟨p, 0, none⟩)), (1, .int .u64 t)] Tryz.func17 rfl Tryz.ntmps17 rfl ⟨rfl, rfl, trivial⟩ ?_
 refine cd_open portI_open ?_
 rintro ⟨s, rt, mb⟩ -
 simp only []
 refine cd_seq ?_
 refine cd_seq ?_
 refine cd_region [0, 0, 0, 0, 0, 0, 1, 0, 0] ?_
 refine op_y (y_move rfl) rfl ?_
 first | refine op_y (y_peq (r := false) Port.un_32 rfl rfl) rfl ?_ | refine op_y (y_peq (r := true) Port.un_32 rfl rfl) rfl ?_ | refine op_y (y_peq Port.un_32 rfl rfl) rfl ?_
 refine op_y (y_move rfl) rfl ?_
 first
  | refine op_s1 rfl rfl ⟨rfl, rfl⟩ ?_
  | refine op_s2 rfl rfl ⟨rfl, rfl⟩ ?_
  | (refine op_g rfl rfl ?_
     refine op_y (y_move rfl) rfl ?_)
 first
  | refine op_s1 rfl rfl ⟨rfl, rfl⟩ ?_
  | refine op_s2 rfl rfl ⟨rfl, rfl⟩ ?_
  | (refine op_g rfl rfl ?_
     first | refine op_y (y_nil rfl) rfl ?_ | refine op_y (y_nili rfl) rfl ?_ | refine op_y (y_nilf rfl) rfl ?_)
 first
  | refine op_s1 rfl rfl ⟨rfl, rfl⟩ ?_
  | refine op_s2 rfl rfl ⟨rfl, rfl⟩ ?_
  | (refine op_g rfl rfl ?_
     first | refine op_y (y_fld0 Port.fo_125_0 rfl) rfl ?_ | refine op_y (y_flda Port.fo_125_0 rfl) rfl ?_)
 first
  | refine op_s1 rfl rfl ⟨rfl, rfl⟩ ?_
  | refine op_s2 rfl rfl ⟨rfl, rfl⟩ ?_
  | (refine op_g rfl rfl ?_
     apply op_ld Port.sc_121 rfl rfl
     ·exact rm
     ·rfl)
 first
  | refine op_s1 rfl rfl ⟨rfl, rfl⟩ ?_
  | refine op_s2 rfl rfl ⟨rfl, rfl⟩ ?_
  | (refine op_g rfl rfl ?_
     first | refine op_y (y_peq (r := false) Port.un_121 rfl rfl) rfl ?_ | refine op_y (y_peq (r := true) Port.un_121 rfl rfl) rfl ?_ | refine op_y (y_peq Port.un_121 rfl rfl) rfl ?_)
 first | refine op_y (y_pickt rfl rfl) rfl ?_ | refine op_y (y_pickf rfl rfl) rfl ?_ | refine op_y (y_pick rfl rfl rfl) rfl ?_
 refine op_nil ?_
 refine ent_then ?_
 refine cd_iff rfl ?_
 refine cd_skip ?_
 refine ent_then ?_
 refine cd_seq ?_
 refine cd_region [0, 0, 0, 1, 0, 0, 2] ?_
 refine op_y (y_move rfl) rfl ?_
 first | refine op_y (y_nil rfl) rfl ?_ | refine op_y (y_nili rfl) rfl ?_ | refine op_y (y_nilf rfl) rfl ?_
 first | refine op_y (y_fld0 Port.fo_125_0 rfl) rfl ?_ | refine op_y (y_flda Port.fo_125_0 rfl) rfl ?_
 apply op_ld Port.sc_121 rfl rfl
 ·exact rm
 ·rfl
 refine op_y (y_move rfl) rfl ?_
 apply op_build Port.pl_73 Port.ze_73 rfl rfl
 ·(first | ((try simp [fillL, splice, Value.cells, Pk.cs, Bk.cs, scs, opv, rep, Hdr.cs, pcs_]) <;> rfl) | rfl)
 apply op_c Port.ca_58 rfl rfl (fun e he_ => doTick_ct e s kd cal num t x hx ht)
 ·exact sx
 rintro _ _ ⟨rfl, rfl⟩ G_ hG_
 simp only [zn] at hG_; subst hG_
 refine op_nil ?_
 refine ent_then ?_
 refine cd_seq ?_
 refine cd_region [0, 0, 0, 0, 1, 0] ?_
 refine op_y (y_move rfl) rfl ?_
 first | refine op_y (y_nil rfl) rfl ?_ | refine op_y (y_nili rfl) rfl ?_ | refine op_y (y_nilf rfl) rfl ?_
 first | refine op_y (y_fld Port.fo_125_2 rfl) rfl ?_ | refine op_y (y_flda Port.fo_125_2 rfl) rfl ?_
 first | refine op_y (y_fld0 Port.fo_123_0 rfl) rfl ?_ | refine op_y (y_flda Port.fo_123_0 rfl) rfl ?_
 apply op_ld Port.sc_22 rfl rfl
 ·exact rm
 ·rfl
 first | refine op_y (y_gt rfl rfl (decide_eq_true (by omega))) rfl ?_ | refine op_y (y_gt rfl rfl (decide_eq_false (by omega))) rfl ?_ | refine op_y (y_gt rfl rfl rfl) rfl ?_
 refine op_nil ?_
 refine ent_then ?_
 refine cd_iff rfl ?_
 refine cd_skip ?_
 refine ent_end0 (.inl rfl) rfl ⟨_, ⟨rfl, rfl⟩, fun w h => portI_shut ⟨s, rt, mb⟩ ?_⟩
 apply Sat.only (h := h)
 exact sx
def leaveV (x : SS) (M : MV) : List Value := match x.I with
 | [] => [sv [], .int .i64 18]
 | y :: _ => if x.tok < y.pk.len then [sv [], .int .i64 19] else [((MFind (y.pk.id : Int) M 0).map (·.2)).getD (sv []), .int .i64 0]
def leaveM (x : SS) (M : MV) : MV := match x.I with
 | [] => M
 | y :: _ => if x.tok < y.pk.len then M else MDel (y.pk.id : Int) M
theorem leave_ct (c : Cx) (p kd num : Nat) (cal : Bool) (x : SS) (M : MV) (hx : SOK x) : Ct Tryz.prog 19 #[.pointer (some ⟨p, 0, none⟩)] c [portI p kd cal x M num, tabA]
 fun v L => v = .tuple (leaveV x M).toArray ∧ L = [portI p kd cal (if x.out = 0 then x.pop kd else x) (leaveM x M) num, tabA] := by
 refine ct_fn (args := [.pointer (some ⟨p, 0, none⟩)]) [(0, .pointer (some ⟨p, 0, none⟩))] Tryz.func19 rfl Tryz.ntmps19 rfl ⟨rfl, trivial⟩ ?_
 refine cd_open portI_open ?_
 rintro ⟨s, rt, mb⟩ -
 simp only []
 refine cd_seq ?_
 refine cd_region [0, 0] ?_
 refine op_y (y_assign rfl) rfl ?_
 refine op_y (y_assign rfl) rfl ?_
 refine op_nil ?_
 refine ent_then ?_
 refine cd_seq ?_
 refine cd_seq ?_
 refine cd_region [0, 0, 0, 0, 0, 0, 1, 0, 0] ?_
 refine op_y (y_move rfl) rfl ?_
 first | refine op_y (y_peq (r := false) Port.un_32 rfl rfl) rfl ?_ | refine op_y (y_peq (r := true) Port.un_32 rfl rfl) rfl ?_ | refine op_y (y_peq Port.un_32 rfl rfl) rfl ?_
 refine op_y (y_move rfl) rfl ?_
 first
  | refine op_s1 rfl rfl ⟨rfl, rfl⟩ ?_
  | refine op_s2 rfl rfl ⟨rfl, rfl⟩ ?_
  | (refine op_g rfl rfl ?_
     refine op_y (y_move rfl) rfl ?_)
 first
  | refine op_s1 rfl rfl ⟨rfl, rfl⟩ ?_
  | refine op_s2 rfl rfl ⟨rfl, rfl⟩ ?_
  | (refine op_g rfl rfl ?_
     first | refine op_y (y_nil rfl) rfl ?_ | refine op_y (y_nili rfl) rfl ?_ | refine op_y (y_nilf rfl) rfl ?_)
 first
  | refine op_s1 rfl rfl ⟨rfl, rfl⟩ ?_
  | refine op_s2 rfl rfl ⟨rfl, rfl⟩ ?_
  | (refine op_g rfl rfl ?_
     first | refine op_y (y_fld0 Port.fo_125_0 rfl) rfl ?_ | refine op_y (y_flda Port.fo_125_0 rfl) rfl ?_)
 first
  | refine op_s1 rfl rfl ⟨rfl, rfl⟩ ?_
  | refine op_s2 rfl rfl ⟨rfl, rfl⟩ ?_
  | (refine op_g rfl rfl ?_
     apply op_ld Port.sc_121 rfl rfl
     ·exact rm
     ·rfl)
 first
  | refine op_s1 rfl rfl ⟨rfl, rfl⟩ ?_
  | refine op_s2 rfl rfl ⟨rfl, rfl⟩ ?_
  | (refine op_g rfl rfl ?_
     first | refine op_y (y_peq (r := false) Port.un_121 rfl rfl) rfl ?_ | refine op_y (y_peq (r := true) Port.un_121 rfl rfl) rfl ?_ | refine op_y (y_peq Port.un_121 rfl rfl) rfl ?_)
 first | refine op_y (y_pickt rfl rfl) rfl ?_ | refine op_y (y_pickf rfl rfl) rfl ?_ | refine op_y (y_pick rfl rfl rfl) rfl ?_
 refine op_nil ?_
 refine ent_then ?_
 refine cd_iff rfl ?_
 refine cd_skip ?_
 refine ent_then ?_
 refine cd_seq ?_
 refine cd_region [0, 0, 0, 1, 0, 2, 2, 2] ?_
 refine op_y (y_move rfl) rfl ?_
 first | refine op_y (y_nil rfl) rfl ?_ | refine op_y (y_nili rfl) rfl ?_ | refine op_y (y_nilf rfl) rfl ?_
 first | refine op_y (y_fld0 Port.fo_125_0 rfl) rfl ?_ | refine op_y (y_flda Port.fo_125_0 rfl) rfl ?_
 apply op_ld Port.sc_121 rfl rfl
 ·exact rm
 ·rfl
 apply op_build Port.pl_73 Port.ze_73 rfl rfl
 ·(first | ((try simp [fillL, splice, Value.cells, Pk.cs, Bk.cs, scs, opv, rep, Hdr.cs, pcs_]) <;> rfl) | rfl)
 apply op_c Port.ca_58 rfl rfl (fun e he_ => doDeq_ct e s kd cal num x hx)
 ·exact sx
 rintro _ _ ⟨rfl, rfl⟩ G_ hG_
 simp only [zn] at hG_; subst hG_
 obtain ⟨I, tok, now, virt, tag⟩ := x
 cases I with
 | nil =>
  have e1 : headV kd ⟨[], tok, now, virt, tag⟩ = rep 2 18 0 0 0 0 := rfl
  have e2 : leaveV ⟨[], tok, now, virt, tag⟩ M = [sv [], .int .i64 18] := rfl
  have e3 : leaveM ⟨[], tok, now, virt, tag⟩ M = M := rfl
  rw [e1, e2, e3]
  skip
  refine op_alloc Port.ze_64 rfl fun b4 => ?_
  apply op_sta Port.sz_64 rfl rfl rfl rfl
  ·exact rm
  ·simp
  ·(first | ((try simp only [zz, splice, Nat.reduceAdd, Nat.zero_mul, Pk.cs, Bk.cs, scs, opv, rep, Hdr.cs, pcs_]) <;> rfl) | rfl)
  refine op_nil ?_
  refine ent_then ?_
  refine cd_seq ?_
  refine cd_seq ?_
  refine cd_region [0, 1, 0] ?_
  first | refine op_y (y_fld Port.fo_64_1 rfl) rfl ?_ | refine op_y (y_flda Port.fo_64_1 rfl) rfl ?_
  apply op_ld Port.sc_33 rfl rfl
  ·exact rm
  ·rfl
  first | refine op_y (y_ne rfl rfl (neT (by omega))) rfl ?_ | refine op_y (y_ne rfl rfl (neF (by omega))) rfl ?_ | refine op_y (y_ne rfl rfl rfl) rfl ?_
  refine op_nil ?_
  refine ent_then ?_
  refine cd_ift rfl ?_
  refine cd_seq ?_
  refine cd_draw ([]) [0, 1, 2, 3] [0, 1, 0, 0] mixed_ (by kernel_rfl) ?_
  first | refine op_y (y_fld Port.fo_64_1 rfl) rfl ?_ | refine op_y (y_flda Port.fo_64_1 rfl) rfl ?_
  apply op_ld Port.sc_33 rfl rfl
  ·exact rm
  ·rfl
  refine op_y (y_assign rfl) rfl ?_
  refine op_y (y_assign rfl) rfl ?_
  refine op_nil ?_
  refine ent_then ?_
  refine cd_ret ?_
  refine ent_thn_ret ?_
  refine ent_ret2 rfl rfl rfl ⟨_, ⟨rfl, rfl⟩, fun w h => portI_shut ⟨s, rt, mb⟩ ?_⟩
  apply Sat.only (h := h)
  exact sx
 | cons y r =>
  by_cases ht : tok < y.pk.len
  ·have e1 : headV kd ⟨y :: r, tok, now, virt, tag⟩ = rep 2 19 0 0 0 0 := by simp only [headV, ht, if_true]
   have e2 : leaveV ⟨y :: r, tok, now, virt, tag⟩ M = [sv [], .int .i64 19] := by simp only [leaveV, ht, if_true]
   have e3 : leaveM ⟨y :: r, tok, now, virt, tag⟩ M = M := by simp only [leaveM, ht, if_true]
   rw [e1, e2, e3]
   skip
   refine op_alloc Port.ze_64 rfl fun b4 => ?_
   apply op_sta Port.sz_64 rfl rfl rfl rfl
   ·exact rm
   ·simp
   ·(first | ((try simp only [zz, splice, Nat.reduceAdd, Nat.zero_mul, Pk.cs, Bk.cs, scs, opv, rep, Hdr.cs, pcs_]) <;> rfl) | rfl)
   refine op_nil ?_
   refine ent_then ?_
   refine cd_seq ?_
   refine cd_seq ?_
   refine cd_region [0, 1, 0] ?_
   first | refine op_y (y_fld Port.fo_64_1 rfl) rfl ?_ | refine op_y (y_flda Port.fo_64_1 rfl) rfl ?_
   apply op_ld Port.sc_33 rfl rfl
   ·exact rm
   ·rfl
   first | refine op_y (y_ne rfl rfl (neT (by omega))) rfl ?_ | refine op_y (y_ne rfl rfl (neF (by omega))) rfl ?_ | refine op_y (y_ne rfl rfl rfl) rfl ?_
   refine op_nil ?_
   refine ent_then ?_
   refine cd_ift rfl ?_
   refine cd_seq ?_
   refine cd_draw ([]) [0, 1, 2, 3] [0, 1, 0, 0] mixed_ (by kernel_rfl) ?_
   first | refine op_y (y_fld Port.fo_64_1 rfl) rfl ?_ | refine op_y (y_flda Port.fo_64_1 rfl) rfl ?_
   apply op_ld Port.sc_33 rfl rfl
   ·exact rm
   ·rfl
   refine op_y (y_assign rfl) rfl ?_
   refine op_y (y_assign rfl) rfl ?_
   refine op_nil ?_
   refine ent_then ?_
   refine cd_ret ?_
   refine ent_thn_ret ?_
   refine ent_ret2 rfl rfl rfl ⟨_, ⟨rfl, rfl⟩, fun w h => portI_shut ⟨s, rt, mb⟩ ?_⟩
   apply Sat.only (h := h)
   exact sx
  ·have e1 : headV kd ⟨y :: r, tok, now, virt, tag⟩ = rep 2 0 1 y.pk.id y.pk.len y.rank := by simp only [headV, ht, if_false]
   have e2 : leaveV ⟨y :: r, tok, now, virt, tag⟩ M = [((MFind (y.pk.id : Int) M 0).map (·.2)).getD (sv []), .int .i64 0] := by simp only [leaveV, ht, if_false]
   have e3 : leaveM ⟨y :: r, tok, now, virt, tag⟩ M = MDel (y.pk.id : Int) M := by simp only [leaveM, ht, if_false]
   rw [e1, e2, e3]
   skip
   refine op_alloc Port.ze_64 rfl fun b4 => ?_
   apply op_sta Port.sz_64 rfl rfl rfl rfl
   ·exact rm
   ·simp
   ·(first | ((try simp only [zz, splice, Nat.reduceAdd, Nat.zero_mul, Pk.cs, Bk.cs, scs, opv, rep, Hdr.cs, pcs_]) <;> rfl) | rfl)
   refine op_nil ?_
   refine ent_then ?_
   refine cd_seq ?_
   refine cd_seq ?_
   refine cd_region [0, 1, 0] ?_
   first | refine op_y (y_fld Port.fo_64_1 rfl) rfl ?_ | refine op_y (y_flda Port.fo_64_1 rfl) rfl ?_
   apply op_ld Port.sc_33 rfl rfl
   ·exact rm
   ·rfl
   first | refine op_y (y_ne rfl rfl (neT (by omega))) rfl ?_ | refine op_y (y_ne rfl rfl (neF (by omega))) rfl ?_ | refine op_y (y_ne rfl rfl rfl) rfl ?_
   refine op_nil ?_
   refine ent_then ?_
   refine cd_iff rfl ?_
   refine cd_skip ?_
   refine ent_then ?_
   refine cd_seq ?_
   refine cd_draw ([]) [0, 1, 2, 3, 4, 5, 6, 7, 8] [0, 0, 0, 1, 0, 0, 1, 1, 0] mixed_ (by kernel_rfl) ?_
   refine op_y (y_move rfl) rfl ?_
   first | refine op_y (y_nil rfl) rfl ?_ | refine op_y (y_nili rfl) rfl ?_ | refine op_y (y_nilf rfl) rfl ?_
   first | refine op_y (y_fld Port.fo_125_4 rfl) rfl ?_ | refine op_y (y_flda Port.fo_125_4 rfl) rfl ?_
   apply op_ld Port.sc_120 rfl rfl
   ·exact rm
   ·rfl
   first | refine op_y (y_fld Port.fo_64_2 rfl) rfl ?_ | refine op_y (y_flda Port.fo_64_2 rfl) rfl ?_
   first | refine op_y (y_fld Port.fo_62_1 rfl) rfl ?_ | refine op_y (y_flda Port.fo_62_1 rfl) rfl ?_
   apply op_ld Port.sc_42 rfl rfl
   ·exact rm
   ·rfl
   apply op_look Port.un_120 Port.un_42 Port.zi_9 rfl rfl rfl
   ·exact rm
   refine op_y (y_assign rfl) rfl ?_
   refine op_nil ?_
   refine ent_then ?_
   refine cd_seq ?_
   refine cd_draw ([]) [0, 1, 2, 3, 4, 5, 6, 7] [0, 0, 0, 1, 0, 0, 1, 2] mixed_ (by kernel_rfl) ?_
   refine op_y (y_move rfl) rfl ?_
   first | refine op_y (y_nil rfl) rfl ?_ | refine op_y (y_nili rfl) rfl ?_ | refine op_y (y_nilf rfl) rfl ?_
   first | refine op_y (y_fld Port.fo_125_4 rfl) rfl ?_ | refine op_y (y_flda Port.fo_125_4 rfl) rfl ?_
   apply op_ld Port.sc_120 rfl rfl
   ·exact rm
   ·rfl
   first | refine op_y (y_fld Port.fo_64_2 rfl) rfl ?_ | refine op_y (y_flda Port.fo_64_2 rfl) rfl ?_
   first | refine op_y (y_fld Port.fo_62_1 rfl) rfl ?_ | refine op_y (y_flda Port.fo_62_1 rfl) rfl ?_
   apply op_ld Port.sc_42 rfl rfl
   ·exact rm
   ·rfl
   apply op_mdel0 Port.un_120 Port.un_42 rfl rfl rfl
   ·exact rm
   refine op_nil ?_
   refine ent_then ?_
   refine cd_seq ?_
   refine cd_region [0, 0, 0] ?_
   refine op_y (y_move rfl) rfl ?_
   refine op_y (y_assign rfl) rfl ?_
   refine op_y (y_assign rfl) rfl ?_
   refine op_nil ?_
   refine ent_then ?_
   refine cd_ret ?_
   refine ent_ret2 rfl rfl rfl ⟨_, ⟨rfl, rfl⟩, fun w h => portI_shut ⟨s, rt, mb⟩ ?_⟩
   apply Sat.only (h := h)
   exact sx
def arrE (x : SS) (l : List UInt8) : Nat := if takeE l ≠ 0 then takeE l else if hopE l ≠ 0 then hopE l else x.why l.length
theorem hdrOf_ok (l : List UInt8) : (hdrOf l).ok :=
 ⟨by have := bt_lt l 1; show bt l 1 / 4 < 256; omega, hf_lt l 4, bt_lt l 8, wd_lt l 12, wd_lt l 16, hf_lt l 20, hf_lt l 22⟩
theorem arrive_ct (c : Cx) (p kd num : Nat) (cal : Bool) (x : SS) (M : MV) (l : List UInt8) (hx : SOK x) (hkd : kd = 1 ∨ kd = 2) (hl : l.length ≤ 70000) (hnum : num < 4000000000) : Ct Tryz.prog 14 #[.pointer (some ⟨p, 0, none⟩), sv l] c [portI p kd cal x M num, tabA]
 fun v L => (arrE x l ≠ 0 ∧ v = .tuple #[.int .u32 0, .int .i64 (arrE x l : Nat)] ∧ L = [portI p kd cal x M num, tabA]) ∨
  (arrE x l = 0 ∧ v = .tuple #[.int .u32 (num + 1 : Nat), .int .i64 0] ∧ L = [portI p kd cal (x.push kd (num + 1) l.length) (MPut ((num + 1 : Nat) : Int) (sv (hopF l)) M) (num + 1), tabA]) := by
 refine ct_fn (args := [.pointer (some ⟨p, 0, none⟩), sv l]) [(0, .pointer (some ⟨p, 0, none⟩)), (1, sv l)] Tryz.func14 rfl Tryz.ntmps14 rfl ⟨rfl, rfl, trivial⟩ ?_
 refine cd_open portI_open ?_
 rintro ⟨s, rt, mb⟩ -
 simp only []
 refine cd_seq ?_
 refine cd_region [0, 0] ?_
 refine op_y (y_assign rfl) rfl ?_
 refine op_y (y_assign rfl) rfl ?_
 refine op_nil ?_
 refine ent_then ?_
 refine cd_seq ?_
 refine cd_seq ?_
 refine cd_region [0, 0, 0, 0, 0, 0, 1, 0, 0] ?_
 refine op_y (y_move rfl) rfl ?_
 first | refine op_y (y_peq (r := false) Port.un_32 rfl rfl) rfl ?_ | refine op_y (y_peq (r := true) Port.un_32 rfl rfl) rfl ?_ | refine op_y (y_peq Port.un_32 rfl rfl) rfl ?_
 refine op_y (y_move rfl) rfl ?_
 first
  | refine op_s1 rfl rfl ⟨rfl, rfl⟩ ?_
  | refine op_s2 rfl rfl ⟨rfl, rfl⟩ ?_
  | (refine op_g rfl rfl ?_
     refine op_y (y_move rfl) rfl ?_)
 first
  | refine op_s1 rfl rfl ⟨rfl, rfl⟩ ?_
  | refine op_s2 rfl rfl ⟨rfl, rfl⟩ ?_
  | (refine op_g rfl rfl ?_
     first | refine op_y (y_nil rfl) rfl ?_ | refine op_y (y_nili rfl) rfl ?_ | refine op_y (y_nilf rfl) rfl ?_)
 first
  | refine op_s1 rfl rfl ⟨rfl, rfl⟩ ?_
  | refine op_s2 rfl rfl ⟨rfl, rfl⟩ ?_
  | (refine op_g rfl rfl ?_
     first | refine op_y (y_fld0 Port.fo_125_0 rfl) rfl ?_ | refine op_y (y_flda Port.fo_125_0 rfl) rfl ?_)
 first
  | refine op_s1 rfl rfl ⟨rfl, rfl⟩ ?_
  | refine op_s2 rfl rfl ⟨rfl, rfl⟩ ?_
  | (refine op_g rfl rfl ?_
     apply op_ld Port.sc_121 rfl rfl
     ·exact rm
     ·rfl)
 first
  | refine op_s1 rfl rfl ⟨rfl, rfl⟩ ?_
  | refine op_s2 rfl rfl ⟨rfl, rfl⟩ ?_
  | (refine op_g rfl rfl ?_
     first | refine op_y (y_peq (r := false) Port.un_121 rfl rfl) rfl ?_ | refine op_y (y_peq (r := true) Port.un_121 rfl rfl) rfl ?_ | refine op_y (y_peq Port.un_121 rfl rfl) rfl ?_)
 first | refine op_y (y_pickt rfl rfl) rfl ?_ | refine op_y (y_pickf rfl rfl) rfl ?_ | refine op_y (y_pick rfl rfl rfl) rfl ?_
 refine op_nil ?_
 refine ent_then ?_
 refine cd_iff rfl ?_
 refine cd_skip ?_
 refine ent_then ?_
 refine cd_seq ?_
 refine cd_region [0, 2, 0, 0, 0, 0, 2, 2, 0, 0] ?_
 refine op_y (y_move rfl) rfl ?_
 apply op_c Port.ca_46 rfl rfl (fun e he_ => take_ct e l hl)
 ·exact sx
 rintro _ _ ⟨rfl, rfl⟩ G_ hG_
 simp only [zn] at hG_; subst hG_
 by_cases hE : takeE l = 0
 ·have e1 : takeH l = hdrOf l := by simp [takeH, hE]
  have hhk := hdrOf_ok l
  obtain ⟨hh, hhh⟩ : ∃ q, q = hdrOf l := ⟨_, rfl⟩
  rw [hE, e1]
  rw [← hhh] at hhk ⊢
  skip
  refine op_y (y_move rfl) rfl ?_
  first | refine op_y (y_extl rfl rfl) rfl ?_ | refine op_y (y_ext rfl rfl) rfl ?_
  first | refine op_y (y_extl rfl rfl) rfl ?_ | refine op_y (y_ext rfl rfl) rfl ?_
  first | refine op_y (y_extl rfl rfl) rfl ?_ | refine op_y (y_ext rfl rfl) rfl ?_
  refine op_alloc Port.ze_44 rfl fun b6 => ?_
  apply op_sta Port.sz_44 rfl rfl rfl rfl
  ·exact rm
  ·simp
  ·(first | ((try simp only [zz, splice, Nat.reduceAdd, Nat.zero_mul, Pk.cs, Bk.cs, scs, opv, rep, Hdr.cs, pcs_]) <;> rfl) | rfl)
  refine op_y (y_assign rfl) rfl ?_
  refine op_y (y_assign rfl) rfl ?_
  refine op_nil ?_
  refine ent_then ?_
  refine cd_seq ?_
  refine cd_seq ?_
  refine cd_region [0, 0] ?_
  refine op_y (y_move rfl) rfl ?_
  first | refine op_y (y_ne rfl rfl (neT (by omega))) rfl ?_ | refine op_y (y_ne rfl rfl (neF (by omega))) rfl ?_ | refine op_y (y_ne rfl rfl rfl) rfl ?_
  refine op_nil ?_
  refine ent_then ?_
  refine cd_iff rfl ?_
  refine cd_skip ?_
  refine ent_then ?_
  refine cd_seq ?_
  refine cd_draw ([]) [0, 1, 2, 3, 4, 5, 6, 7, 8, 9, 10] [0, 0, 0, 1, 1, 2, 0, 0, 0, 0, 0] mixed_ (by kernel_rfl) ?_
  refine op_y (y_move rfl) rfl ?_
  first | refine op_y (y_nil rfl) rfl ?_ | refine op_y (y_nili rfl) rfl ?_ | refine op_y (y_nilf rfl) rfl ?_
  first | refine op_y (y_fld Port.fo_125_1 rfl) rfl ?_ | refine op_y (y_flda Port.fo_125_1 rfl) rfl ?_
  apply op_ld Port.sc_122 rfl rfl
  ·exact rm
  ·rfl
  apply op_lda Port.ag_44 rfl rfl
  ·exact rm
  ·(first | ((try simp only [zz, splice, Nat.reduceAdd, Nat.zero_mul, Pk.cs, Bk.cs, scs, opv, rep, Hdr.cs, pcs_]) <;> rfl) | rfl)
  ·rfl
  apply op_c Port.ca_55 rfl rfl (fun e he_ => rflow_ct e rt hh hhk)
  ·exact sx
  rintro _ _ ⟨rfl, rfl⟩ G_ hG_
  simp only [zn] at hG_; subst hG_
  refine op_y (y_move rfl) rfl ?_
  first | refine op_y (y_extl rfl rfl) rfl ?_ | refine op_y (y_ext rfl rfl) rfl ?_
  first | refine op_y (y_extl rfl rfl) rfl ?_ | refine op_y (y_ext rfl rfl) rfl ?_
  refine op_y (y_assign rfl) rfl ?_
  refine op_y (y_assign rfl) rfl ?_
  refine op_nil ?_
  refine ent_then ?_
  refine cd_seq ?_
  refine cd_seq ?_
  refine cd_region [0, 0] ?_
  refine op_y (y_move rfl) rfl ?_
  first | refine op_y (y_not (b := true) (r := false) rfl rfl) rfl ?_ | refine op_y (y_not (b := false) (r := true) rfl rfl) rfl ?_ | refine op_y (y_not rfl rfl) rfl ?_
  refine op_nil ?_
  refine ent_then ?_
  refine cd_iff rfl ?_
  refine cd_skip ?_
  refine ent_then ?_
  refine cd_seq ?_
  refine cd_region [0, 2, 0, 0, 0, 0, 0] ?_
  refine op_y (y_move rfl) rfl ?_
  apply op_c Port.ca_44 rfl rfl (fun e he_ => hop_ct e l hl)
  ·exact sx
  rintro _ _ ⟨rfl, rfl⟩ G_ hG_
  simp only [zn] at hG_; subst hG_
  by_cases hO : hopE l = 0
  ·rw [hO]
   have hA : arrE x l = x.why l.length := by simp [arrE, hE, hO]
   rw [hA]
   obtain ⟨num1, hnum1⟩ : ∃ q, q = num + 1 := ⟨_, rfl⟩
   have hn1 : ((num : Int) + 1) = (num1 : Int) := by omega
   skip
   refine op_y (y_move rfl) rfl ?_
   first | refine op_y (y_extl rfl rfl) rfl ?_ | refine op_y (y_ext rfl rfl) rfl ?_
   first | refine op_y (y_extl rfl rfl) rfl ?_ | refine op_y (y_ext rfl rfl) rfl ?_
   refine op_y (y_assign rfl) rfl ?_
   refine op_y (y_assign rfl) rfl ?_
   refine op_nil ?_
   refine ent_then ?_
   refine cd_seq ?_
   refine cd_seq ?_
   refine cd_region [0, 0] ?_
   refine op_y (y_move rfl) rfl ?_
   first | refine op_y (y_ne rfl rfl (neT (by omega))) rfl ?_ | refine op_y (y_ne rfl rfl (neF (by omega))) rfl ?_ | refine op_y (y_ne rfl rfl rfl) rfl ?_
   refine op_nil ?_
   refine ent_then ?_
   refine cd_iff rfl ?_
   refine cd_skip ?_
   refine ent_then ?_
   refine cd_seq ?_
   refine cd_region [0, 0, 0, 0] ?_
   refine op_y (y_move rfl) rfl ?_
   first | refine op_y (y_slen Port.un_9 rfl) rfl ?_ | refine op_y (y_lens Port.un_9 rfl) rfl ?_
   refine op_y (y_convr (a := l.length) l.length rfl Port.un_3 Port.un_22 rfl rfl (Nat.mod_eq_of_lt (by show _ < 18446744073709551616; omega))) rfl ?_
   refine op_y (y_assign rfl) rfl ?_
   refine op_nil ?_
   refine ent_then ?_
   refine cd_seq ?_
   refine cd_seq ?_
   refine cd_region [0, 0, 2] ?_
   refine op_y (y_move rfl) rfl ?_
   refine op_y (y_move rfl) rfl ?_
   apply op_c Port.ca_56 rfl rfl (fun e he_ => colour_ct e p s rt mb num l.length)
   ·exact sx
   rintro _ _ ⟨rfl, rfl⟩ G_ hG_
   simp only [zn] at hG_; subst hG_
   refine op_nil ?_
   refine ent_then ?_
   refine cd_block ?_
   refine cd_seq ?_
   refine cd_region [0, 0] ?_
   first | refine op_y (y_eq rfl rfl (eqT (by omega))) rfl ?_ | refine op_y (y_eq rfl rfl (eqF (by omega))) rfl ?_ | refine op_y (y_eq rfl rfl rfl) rfl ?_
   refine op_y (y_assign rfl) rfl ?_
   refine op_nil ?_
   refine ent_then ?_
   refine cd_iff rfl ?_
   refine cd_seq ?_
   refine cd_region [0, 0] ?_
   first | refine op_y (y_eq rfl rfl (eqT (by omega))) rfl ?_ | refine op_y (y_eq rfl rfl (eqF (by omega))) rfl ?_ | refine op_y (y_eq rfl rfl rfl) rfl ?_
   refine op_y (y_assign rfl) rfl ?_
   refine op_nil ?_
   refine ent_then ?_
   refine cd_iff rfl ?_
   refine cd_skip ?_
   refine ent_block ?_
   refine ent_then ?_
   refine cd_seq ?_
   refine cd_region [0, 0, 0, 1, 0, 0] ?_
   refine op_y (y_move rfl) rfl ?_
   first | refine op_y (y_nil rfl) rfl ?_ | refine op_y (y_nili rfl) rfl ?_ | refine op_y (y_nilf rfl) rfl ?_
   first | refine op_y (y_fld Port.fo_125_5 rfl) rfl ?_ | refine op_y (y_flda Port.fo_125_5 rfl) rfl ?_
   apply op_ld Port.sc_42 rfl rfl
   ·exact rm
   ·rfl
   refine op_y (y_addr (a := num) (b := 1) num1 rfl rfl rfl rfl rfl hnum1.symm (by show _ < 4294967296; omega)) rfl ?_
   refine op_y (y_assign rfl) rfl ?_
   refine op_nil ?_
   refine ent_then ?_
   refine cd_seq ?_
   refine cd_seq ?_
   refine cd_region [0, 0, 0, 1, 0, 0, 0, 0, 2, 2, 2] ?_
   refine op_y (y_move rfl) rfl ?_
   first | refine op_y (y_nil rfl) rfl ?_ | refine op_y (y_nili rfl) rfl ?_ | refine op_y (y_nilf rfl) rfl ?_
   first | refine op_y (y_fld0 Port.fo_125_0 rfl) rfl ?_ | refine op_y (y_flda Port.fo_125_0 rfl) rfl ?_
   apply op_ld Port.sc_121 rfl rfl
   ·exact rm
   ·rfl
   refine op_y (y_move rfl) rfl ?_
   refine op_y (y_move rfl) rfl ?_
   refine op_y (y_move rfl) rfl ?_
   apply op_build Port.pl_73 Port.ze_73 rfl rfl
   ·(first | ((try simp [fillL, splice, Value.cells, Pk.cs, Bk.cs, scs, opv, rep, Hdr.cs, pcs_]) <;> rfl) | rfl)
   apply op_c Port.ca_58 rfl rfl (fun e he_ => doEnq_ct e s kd cal num num1 l.length x hx hkd (by omega) (by omega) (by omega))
   ·exact sx
   rintro v _ (⟨hw, rfl, rfl⟩ | ⟨hw, rfl, rfl⟩) G_ hG_
   ·simp only [zn] at hG_; subst hG_
    obtain ⟨y, hy⟩ : ∃ q, q = x.why l.length := ⟨_, rfl⟩
    rw [← hy] at hw ⊢
    skip
    refine op_alloc Port.ze_64 rfl fun b14 => ?_
    apply op_sta Port.sz_64 rfl rfl rfl rfl
    ·exact rm
    ·simp
    ·(first | ((try simp only [zz, splice, Nat.reduceAdd, Nat.zero_mul, Pk.cs, Bk.cs, scs, opv, rep, Hdr.cs, pcs_]) <;> rfl) | rfl)
    refine op_nil ?_
    refine ent_then ?_
    refine cd_seq ?_
    refine cd_region [0, 1, 0] ?_
    first | refine op_y (y_fld Port.fo_64_1 rfl) rfl ?_ | refine op_y (y_flda Port.fo_64_1 rfl) rfl ?_
    apply op_ld Port.sc_33 rfl rfl
    ·exact rm
    ·rfl
    first | refine op_y (y_ne rfl rfl (neT (by omega))) rfl ?_ | refine op_y (y_ne rfl rfl (neF (by omega))) rfl ?_ | refine op_y (y_ne rfl rfl rfl) rfl ?_
    refine op_nil ?_
    refine ent_then ?_
    refine cd_ift rfl ?_
    refine cd_seq ?_
    refine cd_draw ([]) [0, 1, 2, 3] [0, 1, 0, 0] mixed_ (by kernel_rfl) ?_
    first | refine op_y (y_fld Port.fo_64_1 rfl) rfl ?_ | refine op_y (y_flda Port.fo_64_1 rfl) rfl ?_
    apply op_ld Port.sc_33 rfl rfl
    ·exact rm
    ·rfl
    refine op_y (y_assign rfl) rfl ?_
    refine op_y (y_assign rfl) rfl ?_
    refine op_nil ?_
    refine ent_then ?_
    refine cd_ret ?_
    refine ent_thn_ret ?_
    refine ent_ret2 rfl rfl rfl ⟨_, .inl ⟨hw, rfl, rfl⟩, fun w h => portI_shut ⟨s, rt, mb⟩ ?_⟩
    apply Sat.only (h := h)
    exact sx
   ·simp only [zn] at hG_; subst hG_
    obtain ⟨y, hy⟩ : ∃ q, q = rankOf kd x.now x.virt x.tag := ⟨_, rfl⟩
    rw [← hy, ← hnum1]
    skip
    refine op_alloc Port.ze_64 rfl fun b14 => ?_
    apply op_sta Port.sz_64 rfl rfl rfl rfl
    ·exact rm
    ·simp
    ·(first | ((try simp only [zz, splice, Nat.reduceAdd, Nat.zero_mul, Pk.cs, Bk.cs, scs, opv, rep, Hdr.cs, pcs_]) <;> rfl) | rfl)
    refine op_nil ?_
    refine ent_then ?_
    refine cd_seq ?_
    refine cd_region [0, 1, 0] ?_
    first | refine op_y (y_fld Port.fo_64_1 rfl) rfl ?_ | refine op_y (y_flda Port.fo_64_1 rfl) rfl ?_
    apply op_ld Port.sc_33 rfl rfl
    ·exact rm
    ·rfl
    first | refine op_y (y_ne rfl rfl (neT (by omega))) rfl ?_ | refine op_y (y_ne rfl rfl (neF (by omega))) rfl ?_ | refine op_y (y_ne rfl rfl rfl) rfl ?_
    refine op_nil ?_
    refine ent_then ?_
    refine cd_iff rfl ?_
    refine cd_skip ?_
    refine ent_then ?_
    refine cd_seq ?_
    refine cd_region [0, 0, 0, 0, 2] ?_
    refine op_y (y_move rfl) rfl ?_
    refine op_y (y_move rfl) rfl ?_
    first | refine op_y (y_nil rfl) rfl ?_ | refine op_y (y_nili rfl) rfl ?_ | refine op_y (y_nilf rfl) rfl ?_
    first | refine op_y (y_fld Port.fo_125_5 rfl) rfl ?_ | refine op_y (y_flda Port.fo_125_5 rfl) rfl ?_
    apply op_st1 Port.sz_42 rfl rfl rfl
    ·exact rm
    ·rfl
    ·(first | ((try simp only [zz, splice, Nat.reduceAdd, Nat.zero_mul, Pk.cs, Bk.cs, scs, opv, rep, Hdr.cs, pcs_]) <;> rfl) | rfl)
    refine op_nil ?_
    refine ent_then ?_
    refine cd_seq ?_
    refine cd_region [0, 0, 0, 1, 0, 0, 2] ?_
    refine op_y (y_move rfl) rfl ?_
    first | refine op_y (y_nil rfl) rfl ?_ | refine op_y (y_nili rfl) rfl ?_ | refine op_y (y_nilf rfl) rfl ?_
    first | refine op_y (y_fld Port.fo_125_4 rfl) rfl ?_ | refine op_y (y_flda Port.fo_125_4 rfl) rfl ?_
    apply op_ld Port.sc_120 rfl rfl
    ·exact rm
    ·rfl
    refine op_y (y_move rfl) rfl ?_
    refine op_y (y_move rfl) rfl ?_
    apply op_mput Port.un_120 Port.un_42 rfl rfl rfl
    ·exact rm
    refine op_nil ?_
    refine ent_then ?_
    refine cd_seq ?_
    refine cd_region [0, 0, 0] ?_
    refine op_y (y_move rfl) rfl ?_
    refine op_y (y_assign rfl) rfl ?_
    refine op_y (y_assign rfl) rfl ?_
    refine op_nil ?_
    refine ent_then ?_
    refine cd_ret ?_
    refine ent_ret2 rfl rfl rfl ⟨_, .inr ⟨hw, rfl, rfl⟩, fun w h => portI_shut ⟨s, rt, mb⟩ ?_⟩
    apply Sat.only (h := h)
    exact sx
  ·obtain ⟨y, hy⟩ : ∃ q, q = hopE l := ⟨_, rfl⟩
   have hA : arrE x l = y := by rw [hy]; simp [arrE, hE, hO]
   rw [← hy] at hO ⊢
   rw [hA]
   skip
   refine op_y (y_move rfl) rfl ?_
   first | refine op_y (y_extl rfl rfl) rfl ?_ | refine op_y (y_ext rfl rfl) rfl ?_
   first | refine op_y (y_extl rfl rfl) rfl ?_ | refine op_y (y_ext rfl rfl) rfl ?_
   refine op_y (y_assign rfl) rfl ?_
   refine op_y (y_assign rfl) rfl ?_
   refine op_nil ?_
   refine ent_then ?_
   refine cd_seq ?_
   refine cd_seq ?_
   refine cd_region [0, 0] ?_
   refine op_y (y_move rfl) rfl ?_
   first | refine op_y (y_ne rfl rfl (neT (by omega))) rfl ?_ | refine op_y (y_ne rfl rfl (neF (by omega))) rfl ?_ | refine op_y (y_ne rfl rfl rfl) rfl ?_
   refine op_nil ?_
   refine ent_then ?_
   refine cd_ift rfl ?_
   refine cd_seq ?_
   refine cd_region [0, 0, 0] ?_
   refine op_y (y_move rfl) rfl ?_
   refine op_y (y_assign rfl) rfl ?_
   refine op_y (y_assign rfl) rfl ?_
   refine op_nil ?_
   refine ent_then ?_
   refine cd_ret ?_
   refine ent_thn_ret ?_
   refine ent_ret2 rfl rfl rfl ⟨_, .inl ⟨hO, rfl, rfl⟩, fun w h => portI_shut ⟨s, rt, mb⟩ ?_⟩
   apply Sat.only (h := h)
   exact sx
 ·obtain ⟨y, hy⟩ : ∃ q, q = takeE l := ⟨_, rfl⟩
  have hA : arrE x l = y := by rw [hy]; simp [arrE, hE]
  rw [← hy] at hE ⊢
  rw [hA]
  skip
  refine op_y (y_move rfl) rfl ?_
  first | refine op_y (y_extl rfl rfl) rfl ?_ | refine op_y (y_ext rfl rfl) rfl ?_
  first | refine op_y (y_extl rfl rfl) rfl ?_ | refine op_y (y_ext rfl rfl) rfl ?_
  first | refine op_y (y_extl rfl rfl) rfl ?_ | refine op_y (y_ext rfl rfl) rfl ?_
  refine op_alloc Port.ze_44 rfl fun b6 => ?_
  apply op_sta Port.sz_44 rfl rfl rfl rfl
  ·exact rm
  ·simp
  ·(first | ((try simp only [zz, splice, Nat.reduceAdd, Nat.zero_mul, Pk.cs, Bk.cs, scs, opv, rep, Hdr.cs, pcs_]) <;> rfl) | rfl)
  refine op_y (y_assign rfl) rfl ?_
  refine op_y (y_assign rfl) rfl ?_
  refine op_nil ?_
  refine ent_then ?_
  refine cd_seq ?_
  refine cd_seq ?_
  refine cd_region [0, 0] ?_
  refine op_y (y_move rfl) rfl ?_
  first | refine op_y (y_ne rfl rfl (neT (by omega))) rfl ?_ | refine op_y (y_ne rfl rfl (neF (by omega))) rfl ?_ | refine op_y (y_ne rfl rfl rfl) rfl ?_
  refine op_nil ?_
  refine ent_then ?_
  refine cd_ift rfl ?_
  refine cd_seq ?_
  refine cd_region [0, 0, 0] ?_
  refine op_y (y_move rfl) rfl ?_
  refine op_y (y_assign rfl) rfl ?_
  refine op_y (y_assign rfl) rfl ?_
  refine op_nil ?_
  refine ent_then ?_
  refine cd_ret ?_
  refine ent_thn_ret ?_
  refine ent_ret2 rfl rfl rfl ⟨_, .inl ⟨hE, rfl, rfl⟩, fun w h => portI_shut ⟨s, rt, mb⟩ ?_⟩
  apply Sat.only (h := h)
  exact sx
end Go.Proofs.YtfkadaodnaaceaaGreatDoor
/- A port, newly made. -/
namespace Go.Proofs.YtfkadaodnaaceaaGreatDoor
open Go Go.SL
theorem New7.ag_25 : aggK Tryz.prog 25 = some 11 := by kernel_rfl
theorem New7.ag_36 : aggK Tryz.prog 36 = some 16 := by kernel_rfl
theorem New7.ca_12 : callable Tryz.prog 12 = true := by kernel_rfl
theorem New7.ca_47 : callable Tryz.prog 47 = true := by kernel_rfl
theorem New7.ca_48 : callable Tryz.prog 48 = true := by kernel_rfl
theorem New7.ca_52 : callable Tryz.prog 52 = true := by kernel_rfl
theorem New7.ca_53 : callable Tryz.prog 53 = true := by kernel_rfl
theorem New7.ca_81 : callable Tryz.prog 81 = true := by kernel_rfl
theorem New7.fo_25_5 : fieldOff Tryz.prog 25 5 = some 5 := by kernel_rfl
theorem New7.fo_25_7 : fieldOff Tryz.prog 25 7 = some 7 := by kernel_rfl
theorem New7.fo_25_8 : fieldOff Tryz.prog 25 8 = some 8 := by kernel_rfl
theorem New7.fo_25_9 : fieldOff Tryz.prog 25 9 = some 9 := by kernel_rfl
theorem New7.fo_25_10 : fieldOff Tryz.prog 25 10 = some 10 := by kernel_rfl
theorem New7.fo_36_0 : fieldOff Tryz.prog 36 0 = some 0 := by kernel_rfl
theorem New7.fo_36_1 : fieldOff Tryz.prog 36 1 = some 11 := by kernel_rfl
theorem New7.fo_36_2 : fieldOff Tryz.prog 36 2 = some 12 := by kernel_rfl
theorem New7.fo_36_3 : fieldOff Tryz.prog 36 3 = some 13 := by kernel_rfl
theorem New7.fo_36_4 : fieldOff Tryz.prog 36 4 = some 14 := by kernel_rfl
theorem New7.fo_36_5 : fieldOff Tryz.prog 36 5 = some 15 := by kernel_rfl
theorem New7.fo_125_0 : fieldOff Tryz.prog 125 0 = some 0 := by kernel_rfl
theorem New7.fo_125_1 : fieldOff Tryz.prog 125 1 = some 1 := by kernel_rfl
theorem New7.fo_197_4 : fieldOff Tryz.prog 197 4 = some 4 := by kernel_rfl
theorem New7.pl_25 : placesK Tryz.prog 25 = some [(0, 1), (1, 1), (2, 1), (3, 1), (4, 1), (5, 1), (6, 1), (7, 1), (8, 1), (9, 1), (10, 1)] := by kernel_rfl
theorem New7.pl_28 : placesK Tryz.prog 28 = some [(0, 11), (11, 1), (12, 1), (13, 1), (14, 1), (15, 1)] := by kernel_rfl
theorem New7.pl_125 : placesK Tryz.prog 125 = some [(0, 1), (1, 1), (2, 5), (7, 1), (8, 1), (9, 1)] := by kernel_rfl
theorem New7.pl_153 : placesK Tryz.prog 153 = some [(0, 2), (2, 2), (4, 1), (5, 1), (6, 1)] := by kernel_rfl
theorem New7.pl_197 : placesK Tryz.prog 197 = some [(0, 1), (1, 1), (2, 1), (3, 1), (4, 1)] := by kernel_rfl
theorem New7.sc_5 : scalarT Tryz.prog 5 = true := by kernel_rfl
theorem New7.sc_22 : scalarT Tryz.prog 22 = true := by kernel_rfl
theorem New7.sc_23 : scalarT Tryz.prog 23 = true := by kernel_rfl
theorem New7.sc_26 : scalarT Tryz.prog 26 = true := by kernel_rfl
theorem New7.sl_23 : sliceK Tryz.prog 23 = some (197, 5, 40) := by kernel_rfl
theorem New7.sl_26 : sliceK Tryz.prog 26 = some (153, 7, 40) := by kernel_rfl
theorem New7.sz_22 : sizeK Tryz.prog 22 = some 1 := by kernel_rfl
theorem New7.sz_25 : sizeK Tryz.prog 25 = some 11 := by kernel_rfl
theorem New7.sz_28 : sizeK Tryz.prog 28 = some 16 := by kernel_rfl
theorem New7.sz_121 : sizeK Tryz.prog 121 = some 1 := by kernel_rfl
theorem New7.sz_122 : sizeK Tryz.prog 122 = some 1 := by kernel_rfl
theorem New7.ze_25 : zeroC Tryz.prog 25 = some [.int .i64 0, .int .i64 0, .int .i64 0, .int .i64 0, .int .i64 0, .int .u64 0, .int .i64 0, .int .u64 0, .int .u64 0, .int .u64 0, .slice none 0 0] := by kernel_rfl
theorem New7.ze_28 : zeroC Tryz.prog 28 = some [.int .i64 0, .int .i64 0, .int .i64 0, .int .i64 0, .int .i64 0, .int .u64 0, .int .i64 0, .int .u64 0, .int .u64 0, .int .u64 0, .slice none 0 0, .slice none 0 0, .int .u64 0, .int .u64 0, .int .u64 0, .int .u8 0] := by kernel_rfl
theorem New7.ze_125 : zeroC Tryz.prog 125 = some [.pointer none, .pointer none, .int .u64 0, .int .u64 0, .int .u64 0, .int .u64 0, .int .u64 0, .int .u8 0, .map none, .int .u32 0] := by kernel_rfl
theorem New7.ze_153 : zeroC Tryz.prog 153 = some [.int .u32 0, .int .i64 0, .int .u32 0, .int .i64 0, .int .u16 0, .int .u16 0, .int .u32 0] := by kernel_rfl
theorem New7.ze_197 : zeroC Tryz.prog 197 = some [.int .u32 0, .int .u64 0, .int .u64 0, .int .u64 0, .int .u64 0] := by kernel_rfl
set_option maxRecDepth 100000
set_option maxHeartbeats 1000000
abbrev pfc (kd bk bf bc : Nat) : List Value := [.int .i64 kd, .int .i64 bk, .int .i64 1, .int .i64 2, .int .i64 9, .int .u64 5000, .int .i64 0, .int .u64 1000, .int .u64 1000, .int .u64 1000, .slice (some ⟨bf, 0, none⟩) 2 2, .slice (some ⟨bc, 0, none⟩) 1 1, .int .u64 0, .int .u64 0, .int .u64 0, .int .u8 0]
theorem pCheck_ct (c : Cx) (kd bk bf bc : Nat) (hkd : kd = 1 ∨ kd = 2) (hbk : bk = 1 ∨ bk = 2) : Ct Tryz.prog 12 #[.agg (pfc kd bk bf bc).toArray] c [pt bf 197 fl2c, pt bc 153 rlc] fun v L => v = .int .i64 0 ∧ L = [pt bf 197 fl2c, pt bc 153 rlc] := by
 refine ct_fn (args := [.agg (pfc kd bk bf bc).toArray]) [(0, .agg (pfc kd bk bf bc).toArray)] Tryz.func12 rfl Tryz.ntmps12 rfl ⟨rfl, trivial⟩ ?_
 refine cd_seq ?_
 refine cd_region [2, 0] ?_
 refine op_boxa rfl rfl fun b1 => ?_
 refine op_y (y_assign rfl) rfl ?_
 refine op_nil ?_
 refine ent_then ?_
 refine cd_seq ?_
 refine cd_seq ?_
 refine cd_region [0, 1, 2, 0] ?_
 first | refine op_y (y_fld0 New7.fo_36_0 rfl) rfl ?_ | refine op_y (y_flda New7.fo_36_0 rfl) rfl ?_
 apply op_lda New7.ag_25 rfl rfl
 ·exact rm
 ·(first | ((try simp only [zz, splice, Nat.reduceAdd, Nat.zero_mul, Nat.zero, rlc, fl2c, cfc, pfc, pcs_]) <;> rfl) | rfl)
 ·rfl
 apply op_c New7.ca_52 rfl rfl (fun e he_ => cCheck_ct e kd bk bf hkd hbk)
 ·exact sx
 rintro _ _ ⟨rfl, rfl⟩ G_ hG_
 simp only [zn] at hG_; subst hG_
 refine op_y (y_assign rfl) rfl ?_
 refine op_nil ?_
 refine ent_then ?_
 refine cd_seq ?_
 refine cd_region [0, 0] ?_
 refine op_y (y_move rfl) rfl ?_
 first | refine op_y (y_ne rfl rfl (neT (by omega))) rfl ?_ | refine op_y (y_ne rfl rfl (neF (by omega))) rfl ?_ | refine op_y (y_ne rfl rfl rfl) rfl ?_
 refine op_nil ?_
 refine ent_then ?_
 refine cd_iff rfl ?_
 refine cd_skip ?_
 refine ent_then ?_
 refine cd_seq ?_
 refine cd_seq ?_
 refine cd_region [0, 1, 2, 0] ?_
 first | refine op_y (y_fld New7.fo_36_1 rfl) rfl ?_ | refine op_y (y_flda New7.fo_36_1 rfl) rfl ?_
 apply op_ld New7.sc_26 rfl rfl
 ·exact rm
 ·rfl
 apply op_c New7.ca_53 rfl rfl (fun e he_ => rCheck_ct e bc 1)
 ·exact sx
 rintro _ _ ⟨rfl, rfl⟩ G_ hG_
 simp only [zn] at hG_; subst hG_
 refine op_y (y_assign rfl) rfl ?_
 refine op_nil ?_
 refine ent_then ?_
 refine cd_seq ?_
 refine cd_region [0, 0] ?_
 refine op_y (y_move rfl) rfl ?_
 first | refine op_y (y_ne rfl rfl (neT (by omega))) rfl ?_ | refine op_y (y_ne rfl rfl (neF (by omega))) rfl ?_ | refine op_y (y_ne rfl rfl rfl) rfl ?_
 refine op_nil ?_
 refine ent_then ?_
 refine cd_iff rfl ?_
 refine cd_skip ?_
 refine ent_then ?_
 refine cd_seq ?_
 refine cd_block ?_
 refine cd_seq ?_
 refine cd_region [0, 1, 0, 0, 0, 1, 0, 0, 0, 0, 1, 0, 0, 0] ?_
 first | refine op_y (y_fld New7.fo_36_2 rfl) rfl ?_ | refine op_y (y_flda New7.fo_36_2 rfl) rfl ?_
 apply op_ld New7.sc_22 rfl rfl
 ·exact rm
 ·rfl
 first | refine op_y (y_gt rfl rfl (decide_eq_true (by omega))) rfl ?_ | refine op_y (y_gt rfl rfl (decide_eq_false (by omega))) rfl ?_ | refine op_y (y_gt rfl rfl rfl) rfl ?_
 refine op_y (y_move rfl) rfl ?_
 first
  | refine op_s1 rfl rfl ⟨rfl, rfl⟩ ?_
  | refine op_s2 rfl rfl ⟨rfl, rfl⟩ ?_
  | (refine op_g rfl rfl ?_
     first | refine op_y (y_fld New7.fo_36_3 rfl) rfl ?_ | refine op_y (y_flda New7.fo_36_3 rfl) rfl ?_)
 first
  | refine op_s1 rfl rfl ⟨rfl, rfl⟩ ?_
  | refine op_s2 rfl rfl ⟨rfl, rfl⟩ ?_
  | (refine op_g rfl rfl ?_
     apply op_ld New7.sc_22 rfl rfl
     ·exact rm
     ·rfl)
 first
  | refine op_s1 rfl rfl ⟨rfl, rfl⟩ ?_
  | refine op_s2 rfl rfl ⟨rfl, rfl⟩ ?_
  | (refine op_g rfl rfl ?_
     first | refine op_y (y_eq rfl rfl (eqT (by omega))) rfl ?_ | refine op_y (y_eq rfl rfl (eqF (by omega))) rfl ?_ | refine op_y (y_eq rfl rfl rfl) rfl ?_)
 first | refine op_y (y_pickt rfl rfl) rfl ?_ | refine op_y (y_pickf rfl rfl) rfl ?_ | refine op_y (y_pick rfl rfl rfl) rfl ?_
 refine op_y (y_move rfl) rfl ?_
 first
  | refine op_s1 rfl rfl ⟨rfl, rfl⟩ ?_
  | refine op_s2 rfl rfl ⟨rfl, rfl⟩ ?_
  | (refine op_g rfl rfl ?_
     first | refine op_y (y_fld New7.fo_36_4 rfl) rfl ?_ | refine op_y (y_flda New7.fo_36_4 rfl) rfl ?_)
 first
  | refine op_s1 rfl rfl ⟨rfl, rfl⟩ ?_
  | refine op_s2 rfl rfl ⟨rfl, rfl⟩ ?_
  | (refine op_g rfl rfl ?_
     apply op_ld New7.sc_22 rfl rfl
     ·exact rm
     ·rfl)
 first
  | refine op_s1 rfl rfl ⟨rfl, rfl⟩ ?_
  | refine op_s2 rfl rfl ⟨rfl, rfl⟩ ?_
  | (refine op_g rfl rfl ?_
     first | refine op_y (y_eq rfl rfl (eqT (by omega))) rfl ?_ | refine op_y (y_eq rfl rfl (eqF (by omega))) rfl ?_ | refine op_y (y_eq rfl rfl rfl) rfl ?_)
 first | refine op_y (y_pickt rfl rfl) rfl ?_ | refine op_y (y_pickf rfl rfl) rfl ?_ | refine op_y (y_pick rfl rfl rfl) rfl ?_
 refine op_y (y_assign rfl) rfl ?_
 refine op_nil ?_
 refine ent_then ?_
 refine cd_iff rfl ?_
 refine cd_seq ?_
 refine cd_region [0, 1, 0, 0] ?_
 first | refine op_y (y_fld New7.fo_36_5 rfl) rfl ?_ | refine op_y (y_flda New7.fo_36_5 rfl) rfl ?_
 apply op_ld New7.sc_5 rfl rfl
 ·exact rm
 ·rfl
 first | refine op_y (y_gt rfl rfl (decide_eq_true (by omega))) rfl ?_ | refine op_y (y_gt rfl rfl (decide_eq_false (by omega))) rfl ?_ | refine op_y (y_gt rfl rfl rfl) rfl ?_
 refine op_y (y_assign rfl) rfl ?_
 refine op_nil ?_
 refine ent_then ?_
 refine cd_iff rfl ?_
 refine cd_skip ?_
 refine ent_block ?_
 refine ent_then ?_
 refine cd_seq ?_
 refine cd_region [0] ?_
 refine op_y (y_assign rfl) rfl ?_
 refine op_nil ?_
 refine ent_then ?_
 refine cd_ret ?_
 refine ent_ret1 rfl rfl ⟨_, ⟨rfl, rfl⟩, fun w h => ?_⟩
 apply Sat.only (h := h)
 exact sx
theorem pNew_ct' (c : Cx) (kd bk bf bc : Nat) (cal : Bool) (hbk : bkOf cal = bk) (hkd : kd = 1 ∨ kd = 2) : Ct Tryz.prog 10 #[.agg (pfc kd bk bf bc).toArray] c [pt bf 197 fl2c, pt bc 153 rlc]
 fun v L => ∃ p, v = .tuple #[.pointer (some ⟨p, 0, none⟩), .int .i64 0] ∧ L = [portI p kd cal ⟨[], 1000, 0, 0, 0⟩ [] 0, pt bf 197 fl2c, pt bc 153 rlc] := by
 have hb : bk = 1 ∨ bk = 2 := by cases cal <;> simp [bkOf] at hbk <;> omega
 refine ct_fn (args := [.agg (pfc kd bk bf bc).toArray]) [(0, .agg (pfc kd bk bf bc).toArray)] Tryz.func10 rfl Tryz.ntmps10 rfl ⟨rfl, trivial⟩ ?_
 refine cd_seq ?_
 refine cd_region [2, 0, 0] ?_
 refine op_boxa rfl rfl fun b1 => ?_
 refine op_y (y_assign rfl) rfl ?_
 refine op_y (y_assign rfl) rfl ?_
 refine op_nil ?_
 refine ent_then ?_
 refine cd_seq ?_
 refine cd_seq ?_
 refine cd_region [1, 2, 0] ?_
 apply op_lda New7.ag_36 rfl rfl
 ·exact rm
 ·(first | ((try simp only [zz, splice, Nat.reduceAdd, Nat.zero_mul, Nat.zero, rlc, fl2c, cfc, pfc, pcs_]) <;> rfl) | rfl)
 ·rfl
 apply op_c New7.ca_12 rfl rfl (fun e he_ => pCheck_ct e kd bk bf bc hkd hb)
 ·exact sx
 rintro _ _ ⟨rfl, rfl⟩ G_ hG_
 simp only [zn] at hG_; subst hG_
 refine op_y (y_assign rfl) rfl ?_
 refine op_nil ?_
 refine ent_then ?_
 refine cd_seq ?_
 refine cd_region [0, 0] ?_
 refine op_y (y_move rfl) rfl ?_
 first | refine op_y (y_ne rfl rfl (neT (by omega))) rfl ?_ | refine op_y (y_ne rfl rfl (neF (by omega))) rfl ?_ | refine op_y (y_ne rfl rfl rfl) rfl ?_
 refine op_nil ?_
 refine ent_then ?_
 refine cd_iff rfl ?_
 refine cd_skip ?_
 refine ent_then ?_
 refine cd_seq ?_
 refine cd_region [0, 1, 2, 0, 2, 0] ?_
 first | refine op_y (y_fld New7.fo_36_5 rfl) rfl ?_ | refine op_y (y_flda New7.fo_36_5 rfl) rfl ?_
 apply op_ld New7.sc_5 rfl rfl
 ·exact rm
 ·rfl
 refine op_mkm .u32 rfl fun b13 => ?_
 apply op_build New7.pl_125 New7.ze_125 rfl rfl
 ·(first | ((try simp [fillL, splice, Value.cells, Nat.zero, rlc, fl2c, cfc, pfc, pcs_]) <;> rfl) | rfl)
 refine op_boxa rfl rfl fun b15 => ?_
 refine op_y (y_assign rfl) rfl ?_
 refine op_nil ?_
 refine ent_then ?_
 refine cd_seq ?_
 refine cd_region [0, 0, 1, 2, 0, 0, 0, 0, 0, 2] ?_
 refine op_y (y_move rfl) rfl ?_
 first | refine op_y (y_fld0 New7.fo_36_0 rfl) rfl ?_ | refine op_y (y_flda New7.fo_36_0 rfl) rfl ?_
 apply op_lda New7.ag_25 rfl rfl
 ·exact rm
 ·(first | ((try simp only [zz, splice, Nat.reduceAdd, Nat.zero_mul, Nat.zero, rlc, fl2c, cfc, pfc, pcs_]) <;> rfl) | rfl)
 ·rfl
 apply op_c New7.ca_47 rfl rfl (fun e he_ => shNew_ct e kd bf bk cal hbk hkd)
 ·exact sx
 rintro _ _ ⟨s, rfl, rfl⟩ G_ hG_
 simp only [zn] at hG_; subst hG_
 refine op_y (y_move rfl) rfl ?_
 first | refine op_y (y_extl rfl rfl) rfl ?_ | refine op_y (y_ext rfl rfl) rfl ?_
 first | refine op_y (y_extl rfl rfl) rfl ?_ | refine op_y (y_ext rfl rfl) rfl ?_
 first | refine op_y (y_nil rfl) rfl ?_ | refine op_y (y_nili rfl) rfl ?_ | refine op_y (y_nilf rfl) rfl ?_
 first | refine op_y (y_fld0 New7.fo_125_0 rfl) rfl ?_ | refine op_y (y_flda New7.fo_125_0 rfl) rfl ?_
 apply op_st1 New7.sz_121 rfl rfl rfl
 ·exact rm
 ·rfl
 ·(first | ((try simp only [zz, splice, Nat.reduceAdd, Nat.zero_mul, Nat.zero, rlc, fl2c, cfc, pfc, pcs_]) <;> rfl) | rfl)
 refine op_nil ?_
 refine ent_then ?_
 refine cd_seq ?_
 refine cd_region [0, 0, 1, 2, 0, 0, 0, 0, 0, 2] ?_
 refine op_y (y_move rfl) rfl ?_
 first | refine op_y (y_fld New7.fo_36_1 rfl) rfl ?_ | refine op_y (y_flda New7.fo_36_1 rfl) rfl ?_
 apply op_ld New7.sc_26 rfl rfl
 ·exact rm
 ·rfl
 apply op_c New7.ca_48 rfl rfl (fun e he_ => ruNew_ct e bc 1)
 ·exact sx
 rintro _ _ ⟨rt, rfl, rfl⟩ G_ hG_
 simp only [zn] at hG_; subst hG_
 refine op_y (y_move rfl) rfl ?_
 first | refine op_y (y_extl rfl rfl) rfl ?_ | refine op_y (y_ext rfl rfl) rfl ?_
 first | refine op_y (y_extl rfl rfl) rfl ?_ | refine op_y (y_ext rfl rfl) rfl ?_
 first | refine op_y (y_nil rfl) rfl ?_ | refine op_y (y_nili rfl) rfl ?_ | refine op_y (y_nilf rfl) rfl ?_
 first | refine op_y (y_fld New7.fo_125_1 rfl) rfl ?_ | refine op_y (y_flda New7.fo_125_1 rfl) rfl ?_
 apply op_st1 New7.sz_122 rfl rfl rfl
 ·exact rm
 ·rfl
 ·(first | ((try simp only [zz, splice, Nat.reduceAdd, Nat.zero_mul, Nat.zero, rlc, fl2c, cfc, pfc, pcs_]) <;> rfl) | rfl)
 refine op_nil ?_
 refine ent_then ?_
 refine cd_seq ?_
 refine cd_seq ?_
 refine cd_region [0, 1, 0] ?_
 first | refine op_y (y_fld New7.fo_36_2 rfl) rfl ?_ | refine op_y (y_flda New7.fo_36_2 rfl) rfl ?_
 apply op_ld New7.sc_22 rfl rfl
 ·exact rm
 ·rfl
 first | refine op_y (y_gt rfl rfl (decide_eq_true (by omega))) rfl ?_ | refine op_y (y_gt rfl rfl (decide_eq_false (by omega))) rfl ?_ | refine op_y (y_gt rfl rfl rfl) rfl ?_
 refine op_nil ?_
 refine ent_then ?_
 refine cd_iff rfl ?_
 refine cd_skip ?_
 refine ent_then ?_
 refine cd_seq ?_
 refine cd_region [0, 0, 0] ?_
 refine op_y (y_move rfl) rfl ?_
 refine op_y (y_assign rfl) rfl ?_
 refine op_y (y_assign rfl) rfl ?_
 refine op_nil ?_
 refine ent_then ?_
 refine cd_ret ?_
 refine ent_ret2 rfl rfl rfl ⟨_, ⟨b15, rfl, rfl⟩, fun w h => portI_shut ⟨s, rt, b13⟩ ?_⟩
 show Sat [pt b15 125 (pcs_ s rt b13 0), shI s kd cal 0 ⟨[], 1000, 0, 0, 0⟩, rulesI rt, mp b13 .u32 [], pt bf 197 fl2c, pt bc 153 rlc] c w
 replace h : Sat [pt b15 125 (pcs_ s rt b13 0), rulesI rt, pt bc 153 rlc, shI s kd cal 0 ⟨[], 1000, 0, 0, 0⟩, pt bf 197 fl2c, mp b13 .u32 [], pt b1 36 (pfc kd bk bf bc)] c w := h
 apply Sat.only (h := h)
 exact sx
theorem some26_ct (c : Cx) : Ct Tryz.prog 81 #[] c [] fun v L => ∃ b, v = .agg #[.int .i64 2, .int .i64 1, .int .i64 1, .int .i64 2, .int .i64 9, .int .u64 100, .int .i64 0, .int .u64 10, .int .u64 1, .int .u64 10, .slice (some ⟨b, 0, none⟩) 2 2] ∧ L = [pt b 197 [.int .u32 1, .int .u64 1, .int .u64 10, .int .u64 0, .int .u64 50, .int .u32 2, .int .u64 1, .int .u64 20, .int .u64 0, .int .u64 50]] := by
 refine ct_fn (args := []) [] Tryz.func81 rfl Tryz.ntmps81 rfl trivial ?_
 refine cd_seq ?_
 refine cd_region [2] ?_
 refine op_alloc New7.ze_25 rfl fun b0 => ?_
 refine op_nil ?_
 refine ent_then ?_
 refine cd_seq ?_
 refine cd_region [0, 0, 2, 0, 2] ?_
 apply op_build New7.pl_197 New7.ze_197 rfl rfl
 ·(first | ((try simp [fillL, splice, Value.cells, Nat.zero, rlc, fl2c, cfc, pfc, pcs_]) <;> rfl) | rfl)
 apply op_build New7.pl_197 New7.ze_197 rfl rfl
 ·(first | ((try simp [fillL, splice, Value.cells, Nat.zero, rlc, fl2c, cfc, pfc, pcs_]) <;> rfl) | rfl)
 apply op_bslice New7.sl_23 New7.ze_197 rfl rfl rfl rfl rfl
 ·(first | ((try simp [fillL, splice, Value.cells, Nat.zero, rlc, fl2c, cfc, pfc, pcs_]) <;> rfl) | rfl)
 intro b3
 apply op_build New7.pl_25 New7.ze_25 rfl rfl
 ·(first | ((try simp [fillL, splice, Value.cells, Nat.zero, rlc, fl2c, cfc, pfc, pcs_]) <;> rfl) | rfl)
 apply op_sta New7.sz_25 rfl rfl rfl rfl
 ·exact rm
 ·simp
 ·(first | ((try simp only [zz, splice, Nat.reduceAdd, Nat.zero_mul, Nat.zero, rlc, fl2c, cfc, pfc, pcs_]) <;> rfl) | rfl)
 refine op_nil ?_
 refine ent_then ?_
 refine cd_ret ?_
 refine ent_rets (rs := [_]) (vs := [.agg [Value.int .i64 2, .int .i64 1, .int .i64 1, .int .i64 2, .int .i64 9, .int .u64 100, .int .i64 0, .int .u64 10, .int .u64 1, .int .u64 10, .slice (some ⟨b3, 0, none⟩) 2 2].toArray]) (.inl rfl) rfl ⟨⟨_, rfl, .inr ⟨_, 11, rfl, rfl, rds_all (by exact rm), rfl⟩⟩, trivial⟩ ⟨_, ⟨b3, rfl, rfl⟩, fun w h => ?_⟩
 apply Sat.only (h := h)
 exact sx
theorem some36_ct (c : Cx) : Ct Tryz.prog 42 #[] c [] fun v L => ∃ bf bc, v = .agg (pfc 2 1 bf bc).toArray ∧ L = [pt bf 197 fl2c, pt bc 153 rlc] := by
 refine ct_fn (args := []) [] Tryz.func42 rfl Tryz.ntmps42 rfl trivial ?_
 refine cd_seq ?_
 refine cd_region [2] ?_
 refine op_alloc New7.ze_28 rfl fun b0 => ?_
 refine op_nil ?_
 refine ent_then ?_
 refine cd_seq ?_
 refine cd_region [2, 2, 2] ?_
 apply op_c New7.ca_81 rfl rfl (fun e he_ => some26_ct e)
 ·exact sx
 rintro _ _ ⟨b, rfl, rfl⟩ G_ hG_
 simp only [zn] at hG_; subst hG_
 refine op_alloc New7.ze_25 rfl fun b1 => ?_
 apply op_sta New7.sz_25 rfl rfl rfl rfl
 ·exact rm
 ·simp
 ·(first | ((try simp only [zz, splice, Nat.reduceAdd, Nat.zero_mul, Nat.zero, rlc, fl2c, cfc, pfc, pcs_]) <;> rfl) | rfl)
 refine op_nil ?_
 refine ent_then ?_
 refine cd_seq ?_
 refine cd_region [0, 2, 0, 2, 0, 2, 0, 2] ?_
 first | refine op_y (y_fld New7.fo_25_7 rfl) rfl ?_ | refine op_y (y_flda New7.fo_25_7 rfl) rfl ?_
 apply op_st1 New7.sz_22 rfl rfl rfl
 ·exact rm
 ·rfl
 ·(first | ((try simp only [zz, splice, Nat.reduceAdd, Nat.zero_mul, Nat.zero, rlc, fl2c, cfc, pfc, pcs_]) <;> rfl) | rfl)
 first | refine op_y (y_fld New7.fo_25_5 rfl) rfl ?_ | refine op_y (y_flda New7.fo_25_5 rfl) rfl ?_
 apply op_st1 New7.sz_22 rfl rfl rfl
 ·exact rm
 ·rfl
 ·(first | ((try simp only [zz, splice, Nat.reduceAdd, Nat.zero_mul, Nat.zero, rlc, fl2c, cfc, pfc, pcs_]) <;> rfl) | rfl)
 first | refine op_y (y_fld New7.fo_25_9 rfl) rfl ?_ | refine op_y (y_flda New7.fo_25_9 rfl) rfl ?_
 apply op_st1 New7.sz_22 rfl rfl rfl
 ·exact rm
 ·rfl
 ·(first | ((try simp only [zz, splice, Nat.reduceAdd, Nat.zero_mul, Nat.zero, rlc, fl2c, cfc, pfc, pcs_]) <;> rfl) | rfl)
 first | refine op_y (y_fld New7.fo_25_8 rfl) rfl ?_ | refine op_y (y_flda New7.fo_25_8 rfl) rfl ?_
 apply op_st1 New7.sz_22 rfl rfl rfl
 ·exact rm
 ·rfl
 ·(first | ((try simp only [zz, splice, Nat.reduceAdd, Nat.zero_mul, Nat.zero, rlc, fl2c, cfc, pfc, pcs_]) <;> rfl) | rfl)
 refine op_nil ?_
 refine ent_then ?_
 refine cd_seq ?_
 refine cd_region [0, 1, 0, 0, 2] ?_
 first | refine op_y (y_fld New7.fo_25_10 rfl) rfl ?_ | refine op_y (y_flda New7.fo_25_10 rfl) rfl ?_
 apply op_ld New7.sc_23 rfl rfl
 ·exact rm
 ·rfl
 first | refine op_y (y_ix0 (j := 0) New7.sl_23 rfl rfl (by omega) (by omega)) rfl ?_ | refine op_y (y_ix (j := 0) New7.sl_23 rfl rfl (by omega) (by omega)) rfl ?_ | refine op_y (y_ixa (j := 0) New7.sl_23 rfl rfl (by omega) (by omega)) rfl ?_
 first | refine op_y (y_fld New7.fo_197_4 rfl) rfl ?_ | refine op_y (y_flda New7.fo_197_4 rfl) rfl ?_
 apply op_st1 New7.sz_22 rfl rfl rfl
 ·exact rm
 ·rfl
 ·(first | ((try simp only [zz, splice, Nat.reduceAdd, Nat.zero_mul, Nat.zero, rlc, fl2c, cfc, pfc, pcs_]) <;> rfl) | rfl)
 refine op_nil ?_
 refine ent_then ?_
 refine cd_seq ?_
 refine cd_region [1, 0, 2, 0, 2] ?_
 apply op_lda New7.ag_25 rfl rfl
 ·exact rm
 ·(first | ((try simp only [zz, splice, Nat.reduceAdd, Nat.zero_mul, Nat.zero, rlc, fl2c, cfc, pfc, pcs_]) <;> rfl) | rfl)
 ·rfl
 apply op_build New7.pl_153 New7.ze_153 rfl rfl
 ·(first | ((try simp [fillL, splice, Value.cells, Nat.zero, rlc, fl2c, cfc, pfc, pcs_]) <;> rfl) | rfl)
 apply op_bslice New7.sl_26 New7.ze_153 rfl rfl rfl rfl rfl
 ·(first | ((try simp [fillL, splice, Value.cells, Nat.zero, rlc, fl2c, cfc, pfc, pcs_]) <;> rfl) | rfl)
 intro b13
 apply op_build New7.pl_28 New7.ze_28 rfl rfl
 ·(first | ((try simp [fillL, splice, Value.cells, Nat.zero, rlc, fl2c, cfc, pfc, pcs_]) <;> rfl) | rfl)
 apply op_sta New7.sz_28 rfl rfl rfl rfl
 ·exact rm
 ·simp
 ·(first | ((try simp only [zz, splice, Nat.reduceAdd, Nat.zero_mul, Nat.zero, rlc, fl2c, cfc, pfc, pcs_]) <;> rfl) | rfl)
 refine op_nil ?_
 refine ent_then ?_
 refine cd_ret ?_
 refine ent_rets (rs := [_]) (vs := [.agg [Value.int .i64 2, .int .i64 1, .int .i64 1, .int .i64 2, .int .i64 9, .int .u64 5000, .int .i64 0, .int .u64 1000, .int .u64 1000, .int .u64 1000, .slice (some ⟨b, 0, none⟩) 2 2, .slice (some ⟨b13, 0, none⟩) 1 1, .int .u64 0, .int .u64 0, .int .u64 0, .int .u8 0].toArray]) (.inl rfl) rfl ⟨⟨_, rfl, .inr ⟨_, 16, rfl, rfl, rds_all (by exact rm), rfl⟩⟩, trivial⟩ ⟨_, ⟨b, b13, rfl, rfl⟩, fun w h => ?_⟩
 apply Sat.only (h := h)
 exact sx
end Go.Proofs.YtfkadaodnaaceaaGreatDoor
/- Lives: one datagram goes its way. -/
namespace Go.Proofs.YtfkadaodnaaceaaGreatDoor
open Go Go.SL
theorem Lives.ca_10 : callable Tryz.prog 10 = true := by kernel_rfl
theorem Lives.ca_14 : callable Tryz.prog 14 = true := by kernel_rfl
theorem Lives.ca_19 : callable Tryz.prog 19 = true := by kernel_rfl
theorem Lives.ca_23 : callable Tryz.prog 23 = true := by kernel_rfl
theorem Lives.ca_42 : callable Tryz.prog 42 = true := by kernel_rfl
theorem Lives.ca_45 : callable Tryz.prog 45 = true := by kernel_rfl
theorem Lives.ca_46 : callable Tryz.prog 46 = true := by kernel_rfl
theorem Lives.fo_44_2 : fieldOff Tryz.prog 44 2 = some 2 := by kernel_rfl
theorem Lives.pl_44 : placesK Tryz.prog 44 = some [(0, 1), (1, 1), (2, 1), (3, 1), (4, 1), (5, 1), (6, 1)] := by kernel_rfl
theorem Lives.sc_5 : scalarT Tryz.prog 5 = true := by kernel_rfl
theorem Lives.sz_44 : sizeK Tryz.prog 44 = some 7 := by kernel_rfl
theorem Lives.un_32 : Tryz.prog.underlying 32 = some (.pointer 125) := by kernel_rfl
theorem Lives.ze_44 : zeroC Tryz.prog 44 = some [.int .u8 0, .int .u16 0, .int .u8 0, .int .u32 0, .int .u32 0, .int .u16 0, .int .u16 0] := by kernel_rfl
set_option maxRecDepth 100000
set_option maxHeartbeats 1000000
abbrev body4 : List UInt8 := [98, 111, 100, 121]
def x0 : SS := ⟨[], 1000, 0, 0, 0⟩
def x1 : SS := x0.push 2 1 32
def M1 : MV := MPut 1 (sv (hopF exD)) []
theorem x0_ok : SOK x0 := ⟨by decide, by decide, by decide, by decide, by decide, by decide, by decide, by decide⟩
theorem why0 : x0.why 32 = 0 := by decide
theorem x1_ok : SOK x1 := x0_ok.push why0 2 1
theorem livesPut_ct (c : Cx) : Ct Tryz.prog 45 #[.agg [Value.int .u8 0, .int .u16 0, .int .u8 9, .int .u32 0, .int .u32 0, .int .u16 0, .int .u16 0].toArray, sv body4] c [] fun v L => v = .tuple #[sv exD, .int .i64 0] ∧ L = [] := by
 have h := put_ct c ⟨0, 0, 9, 0, 0, 0, 0⟩ ⟨by decide, by decide, by decide, by decide, by decide, by decide, by decide⟩ body4 (by decide)
 rw [show putE ⟨0, 0, 9, 0, 0, 0, 0⟩ body4 = 0 from by decide +kernel, show putF ⟨0, 0, 9, 0, 0, 0, 0⟩ body4 = exD from rfl] at h
 exact h
theorem livesArr_ct (c : Cx) (p : Nat) : Ct Tryz.prog 14 #[.pointer (some ⟨p, 0, none⟩), sv exD] c [portI p 2 false x0 [] 0, tabA]
 fun v L => v = .tuple #[.int .u32 1, .int .i64 0] ∧ L = [portI p 2 false x1 M1 1, tabA] := by
 have h := arrive_ct c p 2 0 false x0 [] exD x0_ok (.inr rfl) (by rw [ex_len]; decide) (by decide)
 have hE : arrE x0 exD = 0 := by rw [arrE, ex_take, ex_hop, ex_len]; exact why0
 refine h.mono fun v L hv => ?_
 rcases hv with ⟨h1, _⟩ | ⟨_, h2, h3⟩
 ·exact absurd hE h1
 ·rw [ex_len] at h3
  exact ⟨h2, h3⟩
theorem livesLeave_ct (c : Cx) (p : Nat) : Ct Tryz.prog 19 #[.pointer (some ⟨p, 0, none⟩)] c [portI p 2 false x1 M1 1, tabA]
 fun v L => ∃ x M, v = .tuple #[sv (hopF exD), .int .i64 0] ∧ L = [portI p 2 false x M 1, tabA] := by
 refine (leave_ct c p 2 1 false x1 M1 x1_ok).mono fun v L hv => ?_
 obtain ⟨h1, h2⟩ := hv
 exact ⟨_, _, h1, h2⟩
theorem livesTake_ct (c : Cx) : Ct Tryz.prog 46 #[sv (hopF exD)] c [] fun v L => ∃ a b d e f g : Int, v = .tuple #[.agg [Value.int .u8 a, .int .u16 b, .int .u8 8, .int .u32 d, .int .u32 e, .int .u16 f, .int .u16 g].toArray, sv body4, .int .i64 0] ∧ L = [] := by
 obtain ⟨h1, h2, h3⟩ := ex_left
 have hl : (hopF exD).length ≤ 70000 := by decide +kernel
 refine (take_ct c (hopF exD) hl).mono fun v L hv => ?_
 obtain ⟨hv, hL⟩ := hv
 rw [h1, h3] at hv
 obtain ⟨H, hH⟩ : ∃ H, H = takeH (hopF exD) := ⟨_, rfl⟩
 rw [← hH] at hv h2
 obtain ⟨a, b, t, d, e, f, g⟩ := H
 simp only at h2
 subst h2
 exact ⟨_, _, _, _, _, _, hv, hL⟩
theorem livesNum_ct (c : Cx) (p : Nat) (x : SS) (M : MV) : Ct Tryz.prog 23 #[.pointer (some ⟨p, 0, none⟩)] c [portI p 2 false x M 1] fun v L => v = .int .u32 1 ∧ L = [portI p 2 false x M 1] := number_ct c p 2 1 false x M
theorem livesNew_ct (c : Cx) (bf bc : Nat) : Ct Tryz.prog 10 #[.agg (pfc 2 1 bf bc).toArray] c [pt bf 197 fl2c, pt bc 153 rlc]
 fun v L => ∃ p, v = .tuple #[.pointer (some ⟨p, 0, none⟩), .int .i64 0] ∧ L = [portI p 2 false x0 [] 0, pt bf 197 fl2c, pt bc 153 rlc] := pNew_ct' c 2 1 bf bc false rfl (.inr rfl)
theorem lives_ct (c : Cx) : Ct Tryz.prog 9 #[] c [tabA] fun v L => v = .bool true ∧ L = [tabA] := by
 refine ct_fn (args := []) [] Tryz.func9 rfl Tryz.ntmps9 rfl trivial ?_
 refine cd_seq ?_
 refine cd_region [0] ?_
 refine op_y (y_assign rfl) rfl ?_
 refine op_nil ?_
 refine ent_then ?_
 refine cd_seq ?_
 refine cd_region [2, 2, 0, 0, 0, 0, 0] ?_
 apply op_c Lives.ca_42 rfl rfl (fun e he_ => some36_ct e)
 ·exact sx
 rintro _ _ ⟨bf, bc, rfl, rfl⟩ G_ hG_
 simp only [zn] at hG_; subst hG_
 apply op_c Lives.ca_10 rfl rfl (fun e he_ => livesNew_ct e bf bc)
 ·exact sx
 rintro _ _ ⟨p, rfl, rfl⟩ G_ hG_
 simp only [zn] at hG_; subst hG_
 refine op_y (y_move rfl) rfl ?_
 first | refine op_y (y_extl rfl rfl) rfl ?_ | refine op_y (y_ext rfl rfl) rfl ?_
 first | refine op_y (y_extl rfl rfl) rfl ?_ | refine op_y (y_ext rfl rfl) rfl ?_
 refine op_y (y_assign rfl) rfl ?_
 refine op_y (y_assign rfl) rfl ?_
 refine op_nil ?_
 refine ent_then ?_
 refine cd_seq ?_
 refine cd_region [0, 2, 0, 0, 0, 0, 0] ?_
 apply op_build Lives.pl_44 Lives.ze_44 rfl rfl
 ·(first | ((try simp [fillL, splice, Value.cells, Nat.zero]) <;> rfl) | rfl)
 apply op_c Lives.ca_45 rfl rfl (fun e he_ => livesPut_ct e)
 ·exact sx
 rintro _ _ ⟨rfl, rfl⟩ G_ hG_
 simp only [zn] at hG_; subst hG_
 refine op_y (y_move rfl) rfl ?_
 first | refine op_y (y_extl rfl rfl) rfl ?_ | refine op_y (y_ext rfl rfl) rfl ?_
 first | refine op_y (y_extl rfl rfl) rfl ?_ | refine op_y (y_ext rfl rfl) rfl ?_
 refine op_y (y_assign rfl) rfl ?_
 refine op_y (y_assign rfl) rfl ?_
 refine op_nil ?_
 refine ent_then ?_
 refine cd_seq ?_
 refine cd_seq ?_
 refine cd_region [0, 0, 0, 0, 0, 0] ?_
 refine op_y (y_move rfl) rfl ?_
 first | refine op_y (y_ne rfl rfl (neT (by omega))) rfl ?_ | refine op_y (y_ne rfl rfl (neF (by omega))) rfl ?_ | refine op_y (y_ne rfl rfl rfl) rfl ?_
 refine op_y (y_move rfl) rfl ?_
 first
  | refine op_s1 rfl rfl ⟨rfl, rfl⟩ ?_
  | refine op_s2 rfl rfl ⟨rfl, rfl⟩ ?_
  | (refine op_g rfl rfl ?_
     refine op_y (y_move rfl) rfl ?_)
 first
  | refine op_s1 rfl rfl ⟨rfl, rfl⟩ ?_
  | refine op_s2 rfl rfl ⟨rfl, rfl⟩ ?_
  | (refine op_g rfl rfl ?_
     first | refine op_y (y_peq (r := false) Lives.un_32 rfl rfl) rfl ?_ | refine op_y (y_peq (r := true) Lives.un_32 rfl rfl) rfl ?_ | refine op_y (y_peq Lives.un_32 rfl rfl) rfl ?_)
 first | refine op_y (y_pickt rfl rfl) rfl ?_ | refine op_y (y_pickf rfl rfl) rfl ?_ | refine op_y (y_pick rfl rfl rfl) rfl ?_
 refine op_nil ?_
 refine ent_then ?_
 refine cd_iff rfl ?_
 refine cd_skip ?_
 refine ent_then ?_
 refine cd_seq ?_
 refine cd_region [0, 0, 2, 0, 0, 0, 0, 0] ?_
 refine op_y (y_move rfl) rfl ?_
 refine op_y (y_move rfl) rfl ?_
 apply op_c Lives.ca_14 rfl rfl (fun e he_ => livesArr_ct e p)
 ·exact sx
 rintro _ _ ⟨rfl, rfl⟩ G_ hG_
 simp only [zn] at hG_; subst hG_
 refine op_y (y_move rfl) rfl ?_
 first | refine op_y (y_extl rfl rfl) rfl ?_ | refine op_y (y_ext rfl rfl) rfl ?_
 first | refine op_y (y_extl rfl rfl) rfl ?_ | refine op_y (y_ext rfl rfl) rfl ?_
 refine op_y (y_assign rfl) rfl ?_
 refine op_y (y_assign rfl) rfl ?_
 refine op_nil ?_
 refine ent_then ?_
 refine cd_seq ?_
 refine cd_region [0, 2, 0, 0, 0, 0, 0] ?_
 refine op_y (y_move rfl) rfl ?_
 apply op_c Lives.ca_19 rfl rfl (fun e he_ => livesLeave_ct e p)
 ·exact sx
 rintro _ _ ⟨x2, M2, rfl, rfl⟩ G_ hG_
 simp only [zn] at hG_; subst hG_
 refine op_y (y_move rfl) rfl ?_
 first | refine op_y (y_extl rfl rfl) rfl ?_ | refine op_y (y_ext rfl rfl) rfl ?_
 first | refine op_y (y_extl rfl rfl) rfl ?_ | refine op_y (y_ext rfl rfl) rfl ?_
 refine op_y (y_assign rfl) rfl ?_
 refine op_y (y_assign rfl) rfl ?_
 refine op_nil ?_
 refine ent_then ?_
 refine cd_seq ?_
 refine cd_region [0, 2, 0, 0, 0, 0, 2, 2, 0, 0] ?_
 refine op_y (y_move rfl) rfl ?_
 apply op_c Lives.ca_46 rfl rfl (fun e he_ => livesTake_ct e)
 ·exact sx
 rintro _ _ ⟨a, b, d, e1, f, g, rfl, rfl⟩ G_ hG_
 simp only [zn] at hG_; subst hG_
 refine op_y (y_move rfl) rfl ?_
 first | refine op_y (y_extl rfl rfl) rfl ?_ | refine op_y (y_ext rfl rfl) rfl ?_
 first | refine op_y (y_extl rfl rfl) rfl ?_ | refine op_y (y_ext rfl rfl) rfl ?_
 first | refine op_y (y_extl rfl rfl) rfl ?_ | refine op_y (y_ext rfl rfl) rfl ?_
 refine op_alloc Lives.ze_44 rfl fun b9 => ?_
 apply op_sta Lives.sz_44 rfl rfl rfl rfl
 ·exact rm
 ·simp
 ·(first | ((try simp only [zz, splice, Nat.reduceAdd, Nat.zero_mul, Nat.zero]) <;> rfl) | rfl)
 refine op_y (y_assign rfl) rfl ?_
 refine op_y (y_assign rfl) rfl ?_
 refine op_nil ?_
 refine ent_then ?_
 refine cd_seq ?_
 refine cd_region [0, 0, 0, 0, 0, 0, 0, 0, 0, 0, 0, 0, 1, 0, 0, 0, 0, 0, 0, 0, 0, 2, 0, 0, 0] ?_
 refine op_y (y_move rfl) rfl ?_
 first | refine op_y (y_eq rfl rfl (eqT (by omega))) rfl ?_ | refine op_y (y_eq rfl rfl (eqF (by omega))) rfl ?_ | refine op_y (y_eq rfl rfl rfl) rfl ?_
 refine op_y (y_move rfl) rfl ?_
 first
  | refine op_s1 rfl rfl ⟨rfl, rfl⟩ ?_
  | refine op_s2 rfl rfl ⟨rfl, rfl⟩ ?_
  | (refine op_g rfl rfl ?_
     refine op_y (y_move rfl) rfl ?_)
 first
  | refine op_s1 rfl rfl ⟨rfl, rfl⟩ ?_
  | refine op_s2 rfl rfl ⟨rfl, rfl⟩ ?_
  | (refine op_g rfl rfl ?_
     first | refine op_y (y_eq rfl rfl (eqT (by omega))) rfl ?_ | refine op_y (y_eq rfl rfl (eqF (by omega))) rfl ?_ | refine op_y (y_eq rfl rfl rfl) rfl ?_)
 first | refine op_y (y_pickt rfl rfl) rfl ?_ | refine op_y (y_pickf rfl rfl) rfl ?_ | refine op_y (y_pick rfl rfl rfl) rfl ?_
 refine op_y (y_move rfl) rfl ?_
 first
  | refine op_s1 rfl rfl ⟨rfl, rfl⟩ ?_
  | refine op_s2 rfl rfl ⟨rfl, rfl⟩ ?_
  | (refine op_g rfl rfl ?_
     refine op_y (y_move rfl) rfl ?_)
 first
  | refine op_s1 rfl rfl ⟨rfl, rfl⟩ ?_
  | refine op_s2 rfl rfl ⟨rfl, rfl⟩ ?_
  | (refine op_g rfl rfl ?_
     first | refine op_y (y_eq rfl rfl (eqT (by omega))) rfl ?_ | refine op_y (y_eq rfl rfl (eqF (by omega))) rfl ?_ | refine op_y (y_eq rfl rfl rfl) rfl ?_)
 first | refine op_y (y_pickt rfl rfl) rfl ?_ | refine op_y (y_pickf rfl rfl) rfl ?_ | refine op_y (y_pick rfl rfl rfl) rfl ?_
 refine op_y (y_move rfl) rfl ?_
 first
  | refine op_s1 rfl rfl ⟨rfl, rfl⟩ ?_
  | refine op_s2 rfl rfl ⟨rfl, rfl⟩ ?_
  | (refine op_g rfl rfl ?_
     first | refine op_y (y_fld Lives.fo_44_2 rfl) rfl ?_ | refine op_y (y_flda Lives.fo_44_2 rfl) rfl ?_)
 first
  | refine op_s1 rfl rfl ⟨rfl, rfl⟩ ?_
  | refine op_s2 rfl rfl ⟨rfl, rfl⟩ ?_
  | (refine op_g rfl rfl ?_
     apply op_ld Lives.sc_5 rfl rfl
     ·exact rm
     ·rfl)
 first
  | refine op_s1 rfl rfl ⟨rfl, rfl⟩ ?_
  | refine op_s2 rfl rfl ⟨rfl, rfl⟩ ?_
  | (refine op_g rfl rfl ?_
     first | refine op_y (y_eq rfl rfl (eqT (by omega))) rfl ?_ | refine op_y (y_eq rfl rfl (eqF (by omega))) rfl ?_ | refine op_y (y_eq rfl rfl rfl) rfl ?_)
 first | refine op_y (y_pickt rfl rfl) rfl ?_ | refine op_y (y_pickf rfl rfl) rfl ?_ | refine op_y (y_pick rfl rfl rfl) rfl ?_
 refine op_y (y_move rfl) rfl ?_
 first
  | refine op_s1 rfl rfl ⟨rfl, rfl⟩ ?_
  | refine op_s2 rfl rfl ⟨rfl, rfl⟩ ?_
  | (refine op_g rfl rfl ?_
     refine op_y (y_move rfl) rfl ?_)
 first
  | refine op_s1 rfl rfl ⟨rfl, rfl⟩ ?_
  | refine op_s2 rfl rfl ⟨rfl, rfl⟩ ?_
  | (refine op_g rfl rfl ?_
     refine op_y (y_seq rfl rfl rfl) rfl ?_)
 first | refine op_y (y_pickt rfl rfl) rfl ?_ | refine op_y (y_pickf rfl rfl) rfl ?_ | refine op_y (y_pick rfl rfl rfl) rfl ?_
 refine op_y (y_move rfl) rfl ?_
 first
  | refine op_s1 rfl rfl ⟨rfl, rfl⟩ ?_
  | refine op_s2 rfl rfl ⟨rfl, rfl⟩ ?_
  | (refine op_g rfl rfl ?_
     refine op_y (y_move rfl) rfl ?_)
 refine op_g rfl rfl ?_
 apply op_c Lives.ca_23 rfl rfl (fun e he_ => livesNum_ct e p x2 M2)
 ·exact sx
 rintro _ _ ⟨rfl, rfl⟩ G_ hG_
 simp only [zn] at hG_; subst hG_
 first
  | refine op_s1 rfl rfl ⟨rfl, rfl⟩ ?_
  | refine op_s2 rfl rfl ⟨rfl, rfl⟩ ?_
  | (refine op_g rfl rfl ?_
     first | refine op_y (y_eq rfl rfl (eqT (by omega))) rfl ?_ | refine op_y (y_eq rfl rfl (eqF (by omega))) rfl ?_ | refine op_y (y_eq rfl rfl rfl) rfl ?_)
 first | refine op_y (y_pickt rfl rfl) rfl ?_ | refine op_y (y_pickf rfl rfl) rfl ?_ | refine op_y (y_pick rfl rfl rfl) rfl ?_
 refine op_y (y_assign rfl) rfl ?_
 refine op_nil ?_
 refine ent_then ?_
 refine cd_ret ?_
 refine ent_ret1 rfl rfl ⟨_, ⟨rfl, rfl⟩, fun w h => ?_⟩
 apply Sat.only (h := h)
 exact sx
end Go.Proofs.YtfkadaodnaaceaaGreatDoor
/- First in, first out: what waits in a port of one flow. -/
namespace Go.Proofs.YtfkadaodnaaceaaGreatDoor
open Go Go.SL
set_option maxRecDepth 100000
set_option maxHeartbeats 400000
def bndK (kd : Nat) (x : SS) : Nat := if kd = 1 then x.tag else satAdd x.now 10
def mzip : List It → List (List UInt8) → MV
 | y :: I, w :: W => ((y.pk.id : Int), sv w) :: mzip I W
 | [], _ => []
 | _ :: _, [] => []
structure TW (kd : Nat) (x : SS) (M : MV) (num : Nat) (W : List (List UInt8)) : Prop where
 ok : SOK x
 m : M = mzip x.I W
 wl : x.I.length = W.length
 nd : (x.I.map fun y => y.pk.id).Nodup
 le : ∀ y ∈ x.I, y.pk.id ≤ num
 ln : ∀ y ∈ x.I, y.pk.len ≤ 1000
 rk : ∀ y ∈ x.I, y.rank ≤ bndK kd x
theorem mzip_keys : ∀ {I : List It} {W : List (List UInt8)} {p : Int × Value}, p ∈ mzip I W → ∃ y ∈ I, p.1 = y.pk.id
 | y :: I, w :: W, p, h => by
  rcases List.mem_cons.1 h with rfl | h
  ·exact ⟨y, by simp, rfl⟩
  ·obtain ⟨z, hz, e⟩ := mzip_keys h
   exact ⟨z, by simp [hz], e⟩
 | [], _, _, h => by cases h
 | _ :: _, [], _, h => by cases h
theorem mzip_snoc : ∀ {I : List It} {W : List (List UInt8)} (y : It) (w : List UInt8), I.length = W.length → mzip (I ++ [y]) (W ++ [w]) = mzip I W ++ [((y.pk.id : Int), sv w)]
 | [], [], _, _, _ => rfl
 | z :: I, v :: W, y, w, h => by
  simp only [List.cons_append, mzip, mzip_snoc y w (show I.length = W.length by simpa using h)]
 | [], _ :: _, _, _, h => by simp at h
 | _ :: _, [], _, _, h => by simp at h
theorem satAdd_ge {a b : Nat} (h : a < 18446744073709551616) : a ≤ satAdd a b := by unfold satAdd; (repeat split) <;> omega
theorem satAdd_mono {a b c : Nat} (h : a ≤ b) : satAdd a c ≤ satAdd b c := by unfold satAdd; split <;> split <;> omega
theorem TW.first (kd : Nat) : TW kd ⟨[], 1000, 0, 0, 0⟩ [] 0 [] :=
 ⟨⟨by simp, by simp [SS.by], by simp, by simp, by simp, by simp, by simp, by simp⟩, rfl, rfl, by simp, by simp, by simp, by simp⟩
theorem TW.tick {kd num : Nat} {x : SS} {M : MV} {W : List (List UInt8)} (h : TW kd x M num W) (t : Nat) : TW kd (x.tick t) M num W :=
 ⟨h.ok.tick t, h.m, h.wl, h.nd, h.le, h.ln, fun y hy => by
  have := h.rk y hy
  have hn := h.ok.now
  unfold bndK at this ⊢
  split at this
  ·rename_i hk; rw [if_pos hk]; exact this
  ·rename_i hk
   rw [if_neg hk]
   exact Nat.le_trans this (satAdd_mono (satAdd_ge hn))⟩
theorem TW.push {kd num n : Nat} {x : SS} {M : MV} {W : List (List UInt8)} (h : TW kd x M num W) (hkd : kd = 1 ∨ kd = 2) (w : List UInt8) (hw : x.why n = 0) :
 TW kd (x.push kd (num + 1) n) (MPut ((num + 1 : Nat) : Int) (sv w) M) (num + 1) (W ++ [w]) := by
 have hv := h.ok.virt
 have hf := why_fits hw
 have hby := h.ok.by_
 have hr : ∀ y ∈ x.I, y.rank ≤ rankOf kd x.now x.virt x.tag := fun y hy => by
  have := h.rk y hy
  unfold bndK at this; unfold rankOf
  split at this
  ·rename_i hk; rw [if_pos hk]; omega
  ·rename_i hk; rw [if_neg hk]; exact this
 have hI : (x.push kd (num + 1) n).I = x.I ++ [⟨rankOf kd x.now x.virt x.tag, ⟨1, num + 1, n⟩⟩] := insI_end hr
 have hM : MPut ((num + 1 : Nat) : Int) (sv w) M = M ++ [(((num + 1 : Nat) : Int), sv w)] := by
  have : MFind ((num + 1 : Nat) : Int) M 0 = none := MFind_none fun p hp => by
   rw [h.m] at hp
   obtain ⟨y, hy, e⟩ := mzip_keys hp
   have := h.le y hy
   rw [e]; omega
  unfold MPut; rw [this]
 have hb : rankOf kd x.now x.virt x.tag ≤ bndK kd (x.push kd (num + 1) n) := by
  have ht := h.ok.tag
  unfold rankOf bndK SS.push tagOf
  rcases hkd with rfl | rfl
  ·simp only [if_true]
   exact satAdd_ge (by omega)
  ·simp
 refine ⟨h.ok.push hw kd (num + 1), ?_, ?_, ?_, ?_, ?_, ?_⟩
 ·rw [hM, hI, mzip_snoc _ _ h.wl, h.m]
 ·rw [hI]; simp [h.wl]
 ·rw [hI, List.map_append, List.nodup_append]
  refine ⟨h.nd, by simp, fun a ha b hb' => ?_⟩
  obtain ⟨y, hy, rfl⟩ := List.mem_map.1 ha
  have := h.le y hy
  simp at hb'
  omega
 ·rw [hI]; intro y hy
  rcases List.mem_append.1 hy with hy | hy
  ·have := h.le y hy; omega
  ·simp at hy; subst hy; exact Nat.le_refl _
 ·rw [hI]; intro y hy
  rcases List.mem_append.1 hy with hy | hy
  ·exact h.ln y hy
  ·simp at hy; subst hy; show n ≤ 1000; omega
 ·rw [hI]; intro y hy
  rcases List.mem_append.1 hy with hy | hy
  ·exact Nat.le_trans (hr y hy) hb
  ·simp at hy; subst hy; exact hb
theorem TW.pop {kd num : Nat} {x : SS} {M : MV} {w : List UInt8} {W : List (List UInt8)} {y : It} {r : List It} (h : TW kd x M num (w :: W)) (hkd : kd = 1 ∨ kd = 2) (hI : x.I = y :: r) :
 TW kd (x.pop kd) (MDel (y.pk.id : Int) M) num W := by
 have hm := h.m
 rw [hI] at hm
 have hF : MFind (y.pk.id : Int) M 0 = some (0, sv w) := by rw [hm]; simp [mzip, MFind]
 have hD : MDel (y.pk.id : Int) M = mzip r W := by unfold MDel; rw [hF, hm]; rfl
 have hP : (x.pop kd).I = r := by unfold SS.pop; rw [hI]
 have hsub : ∀ z ∈ r, z ∈ x.I := fun z hz => by rw [hI]; exact List.mem_cons_of_mem _ hz
 refine ⟨h.ok.pop kd, by rw [hD, hP], ?_, ?_, ?_, ?_, ?_⟩
 ·have := h.wl; rw [hI] at this; rw [hP]; simpa using this
 ·have := h.nd; rw [hI] at this; rw [hP]; exact (List.nodup_cons.1 this).2
 ·rw [hP]; exact fun z hz => h.le z (hsub z hz)
 ·rw [hP]; exact fun z hz => h.ln z (hsub z hz)
 ·rw [hP]; intro z hz
  have := h.rk z (hsub z hz)
  unfold bndK at this ⊢
  unfold SS.pop; rw [hI]
  exact this
theorem TW.head {kd num : Nat} {x : SS} {M : MV} {w : List UInt8} {W : List (List UInt8)} {y : It} {r : List It} (h : TW kd x M num (w :: W)) (hI : x.I = y :: r) (ht : ¬ x.tok < y.pk.len) :
 leaveV x M = [sv w, .int .i64 0] ∧ leaveM x M = MDel (y.pk.id : Int) M ∧ x.out = 0 := by
 have hm := h.m
 rw [hI] at hm
 have hF : MFind (y.pk.id : Int) M 0 = some (0, sv w) := by rw [hm]; simp [mzip, MFind]
 refine ⟨?_, ?_, ?_⟩
 ·unfold leaveV; rw [hI]; simp only [if_neg ht, hF, Option.map_some, Option.getD_some]
 ·unfold leaveM; rw [hI]; simp only [if_neg ht]
 ·unfold SS.out; rw [hI]; simp only [if_neg ht]
theorem TW.late {kd num : Nat} {x : SS} {M : MV} {W : List (List UInt8)} {y : It} {r : List It} (_h : TW kd x M num W) (hI : x.I = y :: r) (ht : x.tok < y.pk.len) :
 leaveV x M = [sv [], .int .i64 19] ∧ leaveM x M = M ∧ x.out ≠ 0 := by
 refine ⟨?_, ?_, ?_⟩
 ·unfold leaveV; rw [hI]; simp only [if_pos ht]
 ·unfold leaveM; rw [hI]; simp only [if_pos ht]
 ·unfold SS.out; rw [hI]; simp only [if_pos ht]; decide
theorem TW.none {kd num : Nat} {x : SS} {M : MV} {W : List (List UInt8)} (_h : TW kd x M num W) (hI : x.I = []) :
 leaveV x M = [sv [], .int .i64 18] ∧ leaveM x M = M ∧ x.out ≠ 0 := by
 refine ⟨?_, ?_, ?_⟩
 ·unfold leaveV; rw [hI]
 ·unfold leaveM; rw [hI]
 ·unfold SS.out; rw [hI]; simp
theorem tick_tok (x : SS) : (x.tick 1000).tok = 1000 := by
 have : satMul 1000 1000 = 1000000 := by decide
 simp only [SS.tick, this]
 unfold satAdd; split <;> omega
end Go.Proofs.YtfkadaodnaaceaaGreatDoor
/- What stands before TopLine's loop: far, and the bytes of an act. -/
namespace Go.Proofs.YtfkadaodnaaceaaGreatDoor
open Go Go.SL
theorem Top.ag_44 : aggK Tryz.prog 44 = some 7 := by kernel_rfl
theorem Top.ca_45 : callable Tryz.prog 45 = true := by kernel_rfl
theorem Top.fo_25_10 : fieldOff Tryz.prog 25 10 = some 10 := by kernel_rfl
theorem Top.fo_28_0 : fieldOff Tryz.prog 28 0 = some 0 := by kernel_rfl
theorem Top.fo_28_1 : fieldOff Tryz.prog 28 1 = some 11 := by kernel_rfl
theorem Top.fo_46_0 : fieldOff Tryz.prog 46 0 = some 0 := by kernel_rfl
theorem Top.fo_46_1 : fieldOff Tryz.prog 46 1 = some 1 := by kernel_rfl
theorem Top.fo_46_2 : fieldOff Tryz.prog 46 2 = some 8 := by kernel_rfl
theorem Top.sc_5 : scalarT Tryz.prog 5 = true := by kernel_rfl
theorem Top.sc_9 : scalarT Tryz.prog 9 = true := by kernel_rfl
theorem Top.sc_23 : scalarT Tryz.prog 23 = true := by kernel_rfl
theorem Top.sc_26 : scalarT Tryz.prog 26 = true := by kernel_rfl
theorem Top.sl_29 : sliceK Tryz.prog 29 = some (46, 10, 48) := by kernel_rfl
theorem Top.un_9 : Tryz.prog.underlying 9 = some (.string) := by kernel_rfl
theorem Top.un_23 : Tryz.prog.underlying 23 = some (.slice 197) := by kernel_rfl
theorem Top.un_26 : Tryz.prog.underlying 26 = some (.slice 153) := by kernel_rfl
theorem Top.un_29 : Tryz.prog.underlying 29 = some (.slice 46) := by kernel_rfl
set_option maxRecDepth 100000
set_option maxHeartbeats 1000000
structure Actn where
 kind : Nat
 hdr : Hdr
 body : List UInt8
 t : Nat
abbrev Actn.cs (a : Actn) : List Value := [.int .u8 a.kind, .int .u8 a.hdr.dscp, .int .u16 a.hdr.id, .int .u8 a.hdr.ttl, .int .u32 a.hdr.src, .int .u32 a.hdr.dst, .int .u16 a.hdr.sport, .int .u16 a.hdr.dport, sv a.body, .int .u64 a.t]
structure Actn.ok (a : Actn) : Prop where
 kind : a.kind < 256
 hdr : a.hdr.ok
 body : a.body.length ≤ 9223372036854775807
 t : a.t < 18446744073709551616
def ActsIn (c : Cx) (A : Option Addr) (l : List Actn) : Prop := ∀ i a, l[i]? = some a → a.ok ∧ ∃ p, A = some p ∧ ∀ w, Sat [] c w → ∀ j v, (Actn.cs a)[j]? = some v → w.cell? ((p.add (i * 10)).add j) = some v
theorem ActsIn.mono {c d : Cx} {A : Option Addr} {l : List Actn} (h : ActsIn c A l) (hle : c.le d) : ActsIn d A l := fun i a hi => by
 obtain ⟨h1, p, h2, h3⟩ := h i a hi
 exact ⟨h1, p, h2, fun w hw => h3 w (Sat.mono hle hw)⟩
theorem ActsIn.rd {c : Cx} {p : Addr} {l : List Actn} {i j : Nat} {a : Actn} {v : Value} {L : List As} (h : ActsIn c (some p) l) (hi : l[i]? = some a) (hv : (Actn.cs a)[j]? = some v) : Rd c L ((p.add (i * 10)).add j) v := fun w hw => by
 obtain ⟨_, q, h2, h3⟩ := h i a hi
 obtain rfl := Option.some.inj h2
 exact h3 w hw.nil_of j v hv
theorem ActsIn.rds {c : Cx} {p : Addr} {l : List Actn} {i : Nat} {a : Actn} {L : List As} (h : ActsIn c (some p) l) (hi : l[i]? = some a) : Rds c L (p.add (i * 10)) (Actn.cs a) := fun w hw j v hv => h.rd hi hv w hw
def farS : Nat → List Actn → Bool
 | _, [] => false
 | s, a :: r => if 6000 < s + (1 + min a.body.length 10000) then true else farS (s + (1 + min a.body.length 10000)) r
theorem farS_cons (s : Nat) (a : Actn) (r : List Actn) : farS s (a :: r) = if 6000 < s + (1 + min a.body.length 10000) then true else farS (s + (1 + min a.body.length 10000)) r := rfl
def farB (l : List Actn) : Bool := farS 0 l || decide (120 < l.length)
theorem farS_body : ∀ {l : List Actn} {s : Nat}, farS s l = false → ∀ a ∈ l, a.body.length ≤ 6000
 | b :: l, s, h, a, ha => by
  unfold farS at h
  split at h
  ·cases h
  ·rcases List.mem_cons.1 ha with rfl | ha
   ·omega
   ·exact farS_body h a ha
 | [], _, _, _, ha => by cases ha
theorem far_ct (c : Cx) (bf bc k : Nat) (A : Option Addr) (l : List Actn) (hA : ActsIn c A l) (hn : l.length ≤ 9223372036854775807) : Ct Tryz.prog 8 #[.agg (pfc 2 1 bf bc).toArray, .slice A l.length k] c [pt bf 197 fl2c, pt bc 153 rlc]
 fun v L => v = .bool (farB l) ∧ L = [pt bf 197 fl2c, pt bc 153 rlc] := by
 obtain ⟨n, hl⟩ : ∃ n, n = l.length := ⟨_, rfl⟩
 rw [← hl] at hn ⊢
 refine ct_fn (args := [.agg (pfc 2 1 bf bc).toArray, .slice A n k]) [(0, .agg (pfc 2 1 bf bc).toArray), (1, .slice A n k)] Tryz.func8 rfl Tryz.ntmps8 rfl ⟨rfl, rfl, trivial⟩ ?_
 refine cd_seq ?_
 refine cd_region [2, 0] ?_
 refine op_boxa rfl rfl fun b2 => ?_
 refine op_y (y_assign rfl) rfl ?_
 refine op_nil ?_
 refine ent_then ?_
 refine cd_seq ?_
 refine cd_region [0] ?_
 refine op_y (y_assign rfl) rfl ?_
 refine op_nil ?_
 refine ent_then ?_
 refine cd_seq ?_
 refine cd_seq ?_
 refine cd_region [0, 0, 0] ?_
 refine op_y (y_move rfl) rfl ?_
 refine op_y (y_len Top.un_29 rfl) rfl ?_
 refine op_y (y_move rfl) rfl ?_
 refine op_nil ?_
 refine ent_then ?_
 refine cd_block ?_
 refine cd_loop (α := Nat × Nat) (fun x => x.1 ≤ n ∧ x.2 ≤ 6000 ∧ farS x.2 (l.drop x.1) = farS 0 l) (fun x => n - x.1) (fun x => [(1, .slice A n k), (2, .pointer (some ⟨b2, 0, none⟩)), (4, .bool false), (5, .int .i64 x.2), (8, .int .i64 n), (9, .int .i64 x.1)]) (fun _ => [pt b2 28 (pfc 2 1 bf bc), pt bf 197 fl2c, pt bc 153 rlc]) (0, 0) ⟨by omega, by decide, by simp⟩ ⟨rfl, rfl, rfl, rfl, rfl, rfl, trivial⟩ (fun w h => ?_) ?_
 ·apply Sat.only (h := h)
  exact sx
 rintro ⟨i, s⟩ ⟨h1, h2, h3⟩
 simp only at h1 h2 h3 ⊢
 by_cases hi : i < n
 ·obtain ⟨a, ha⟩ : ∃ a, l[i]? = some a := ⟨_, List.getElem?_eq_getElem (by omega)⟩
  obtain ⟨hok, p, rfl, _⟩ := hA i a ha
  have hd : l.drop i = a :: l.drop (i + 1) := by
   rw [List.drop_eq_getElem_cons (by omega)]
   rw [List.getElem?_eq_getElem (by omega)] at ha
   rw [Option.some.inj ha]
  obtain ⟨m, hm⟩ : ∃ m, m = min a.body.length 10000 := ⟨_, rfl⟩
  have hm2 : m ≤ 10000 := by omega
  have hb := hok.body
  rw [hd] at h3
  rw [farS_cons, ← hm] at h3
  skip
  refine cd_seq ?_
  refine cd_region [0] ?_
  first | refine op_y (y_lt rfl rfl (decide_eq_true (by omega))) rfl ?_ | refine op_y (y_lt rfl rfl (decide_eq_false (by omega))) rfl ?_ | refine op_y (y_lt rfl rfl rfl) rfl ?_
  refine op_nil ?_
  refine ent_then ?_
  refine cd_seq ?_
  refine cd_ift rfl ?_
  by_cases hg : 6000 < s + (1 + m)
  ·skip
   rw [if_pos hg] at h3
   refine cd_skip ?_
   refine ent_then ?_
   refine cd_seq ?_
   refine cd_block ?_
   refine cd_seq ?_
   refine cd_region [0, 0] ?_
   refine op_y (y_move rfl) rfl ?_
   refine op_y (y_assign rfl) rfl ?_
   refine op_nil ?_
   refine ent_then ?_
   refine cd_seq ?_
   refine cd_region [0, 0, 0, 0, 0, 1, 0, 0, 0, 0, 0] ?_
   refine op_y (y_move rfl) rfl ?_
   refine op_y (y_move rfl) rfl ?_
   refine op_y (y_move rfl) rfl ?_
   first | refine op_y (y_ix0 (j := i) Top.sl_29 rfl rfl (by omega) (by omega)) rfl ?_ | refine op_y (y_ix (j := i) Top.sl_29 rfl rfl (by omega) (by omega)) rfl ?_ | refine op_y (y_ixa (j := i) Top.sl_29 rfl rfl (by omega) (by omega)) rfl ?_
   first | refine op_y (y_fld Top.fo_46_2 rfl) rfl ?_ | refine op_y (y_flda Top.fo_46_2 rfl) rfl ?_
   refine op_ldp Top.sc_9 rfl rfl (hA.rd (j := 8) ha rfl) ?_
   first | refine op_y (y_slen Top.un_9 rfl) rfl ?_ | refine op_y (y_lens Top.un_9 rfl) rfl ?_
   refine op_y (y_min (r := (m : Int)) rfl rfl (by split <;> omega)) rfl ?_
   first | refine op_y (y_add rfl rfl (wi64 (by omega) (by omega))) rfl ?_ | refine op_y (y_add rfl rfl rfl) rfl ?_
   first | refine op_y (y_add rfl rfl (wi64 (by omega) (by omega))) rfl ?_ | refine op_y (y_add rfl rfl rfl) rfl ?_
   refine op_y (y_assign rfl) rfl ?_
   refine op_nil ?_
   refine ent_then ?_
   refine cd_seq ?_
   refine cd_region [0, 0] ?_
   refine op_y (y_move rfl) rfl ?_
   first | refine op_y (y_gt rfl rfl (decide_eq_true (by omega))) rfl ?_ | refine op_y (y_gt rfl rfl (decide_eq_false (by omega))) rfl ?_ | refine op_y (y_gt rfl rfl rfl) rfl ?_
   refine op_nil ?_
   refine ent_then ?_
   refine cd_ift rfl ?_
   refine cd_seq ?_
   refine cd_region [0] ?_
   refine op_y (y_assign rfl) rfl ?_
   refine op_nil ?_
   refine ent_then ?_
   refine cd_ret ?_
   refine ent_block_ret ?_
   refine ent_thn_ret ?_
   refine ent_then_ret ?_
   refine ent_block_ret ?_
   refine ent_thn_ret ?_
   refine ent_ret1 rfl rfl ⟨_, ⟨by rw [farB, ← h3]; rfl, rfl⟩, fun w h => ?_⟩
   apply Sat.only (h := h)
   exact sx
  ·skip
   rw [if_neg hg] at h3
   refine cd_skip ?_
   refine ent_then ?_
   refine cd_seq ?_
   refine cd_block ?_
   refine cd_seq ?_
   refine cd_region [0, 0] ?_
   refine op_y (y_move rfl) rfl ?_
   refine op_y (y_assign rfl) rfl ?_
   refine op_nil ?_
   refine ent_then ?_
   refine cd_seq ?_
   refine cd_region [0, 0, 0, 0, 0, 1, 0, 0, 0, 0, 0] ?_
   refine op_y (y_move rfl) rfl ?_
   refine op_y (y_move rfl) rfl ?_
   refine op_y (y_move rfl) rfl ?_
   first | refine op_y (y_ix0 (j := i) Top.sl_29 rfl rfl (by omega) (by omega)) rfl ?_ | refine op_y (y_ix (j := i) Top.sl_29 rfl rfl (by omega) (by omega)) rfl ?_ | refine op_y (y_ixa (j := i) Top.sl_29 rfl rfl (by omega) (by omega)) rfl ?_
   first | refine op_y (y_fld Top.fo_46_2 rfl) rfl ?_ | refine op_y (y_flda Top.fo_46_2 rfl) rfl ?_
   refine op_ldp Top.sc_9 rfl rfl (hA.rd (j := 8) ha rfl) ?_
   first | refine op_y (y_slen Top.un_9 rfl) rfl ?_ | refine op_y (y_lens Top.un_9 rfl) rfl ?_
   refine op_y (y_min (r := (m : Int)) rfl rfl (by split <;> omega)) rfl ?_
   first | refine op_y (y_add rfl rfl (wi64 (by omega) (by omega))) rfl ?_ | refine op_y (y_add rfl rfl rfl) rfl ?_
   first | refine op_y (y_add rfl rfl (wi64 (by omega) (by omega))) rfl ?_ | refine op_y (y_add rfl rfl rfl) rfl ?_
   refine op_y (y_assign rfl) rfl ?_
   refine op_nil ?_
   refine ent_then ?_
   refine cd_seq ?_
   refine cd_region [0, 0] ?_
   refine op_y (y_move rfl) rfl ?_
   first | refine op_y (y_gt rfl rfl (decide_eq_true (by omega))) rfl ?_ | refine op_y (y_gt rfl rfl (decide_eq_false (by omega))) rfl ?_ | refine op_y (y_gt rfl rfl rfl) rfl ?_
   refine op_nil ?_
   refine ent_then ?_
   refine cd_iff rfl ?_
   refine cd_skip ?_
   refine ent_block ?_
   refine ent_then ?_
   refine cd_region [0, 0] ?_
   first | refine op_y (y_add rfl rfl (wi64 (by omega) (by omega))) rfl ?_ | refine op_y (y_add rfl rfl rfl) rfl ?_
   refine op_y (y_move rfl) rfl ?_
   refine op_nil ?_
   refine ent_back (i + 1, s + (1 + m)) ⟨by simp only []; omega, by simp only []; omega, h3⟩ (by simp only []; omega) ⟨rfl, rfl, rfl, rfl, rfl, rfl, trivial⟩ (fun w h => ?_)
   apply Sat.only (h := h)
   exact sx
 ·have hin : i = n := by omega
  have h0 : farS 0 l = false := by
   rw [← h3, List.drop_eq_nil_of_le (by omega)]; rfl
  skip
  refine cd_seq ?_
  refine cd_region [0] ?_
  first | refine op_y (y_lt rfl rfl (decide_eq_true (by omega))) rfl ?_ | refine op_y (y_lt rfl rfl (decide_eq_false (by omega))) rfl ?_ | refine op_y (y_lt rfl rfl rfl) rfl ?_
  refine op_nil ?_
  refine ent_then ?_
  refine cd_seq ?_
  refine cd_iff rfl ?_
  by_cases hg : 120 < n
  ·skip
   have hE : farB l = true := by rw [farB, ← hl]; simp [hg]
   rw [hE]
   refine cd_exit ?_
   refine ent_thn_exit ?_
   refine ent_then_exit ?_
   refine ent_block_exit ?_
   refine ent_then ?_
   refine cd_seq ?_
   refine cd_region [0, 0, 0, 0, 0, 1, 0, 0, 0, 0, 0, 0, 1, 0, 0, 0, 0] ?_
   refine op_y (y_move rfl) rfl ?_
   refine op_y (y_len Top.un_29 rfl) rfl ?_
   first | refine op_y (y_gt rfl rfl (decide_eq_true (by omega))) rfl ?_ | refine op_y (y_gt rfl rfl (decide_eq_false (by omega))) rfl ?_ | refine op_y (y_gt rfl rfl rfl) rfl ?_
   refine op_y (y_move rfl) rfl ?_
   first
    | refine op_s1 rfl rfl ⟨rfl, rfl⟩ ?_
    | refine op_s2 rfl rfl ⟨rfl, rfl⟩ ?_
    | (refine op_g rfl rfl ?_
       first | refine op_y (y_fld Top.fo_28_1 rfl) rfl ?_ | refine op_y (y_flda Top.fo_28_1 rfl) rfl ?_)
   first
    | refine op_s1 rfl rfl ⟨rfl, rfl⟩ ?_
    | refine op_s2 rfl rfl ⟨rfl, rfl⟩ ?_
    | (refine op_g rfl rfl ?_
       apply op_ld Top.sc_26 rfl rfl
       ·exact rm
       ·rfl)
   first
    | refine op_s1 rfl rfl ⟨rfl, rfl⟩ ?_
    | refine op_s2 rfl rfl ⟨rfl, rfl⟩ ?_
    | (refine op_g rfl rfl ?_
       refine op_y (y_len Top.un_26 rfl) rfl ?_)
   first
    | refine op_s1 rfl rfl ⟨rfl, rfl⟩ ?_
    | refine op_s2 rfl rfl ⟨rfl, rfl⟩ ?_
    | (refine op_g rfl rfl ?_
       first | refine op_y (y_gt rfl rfl (decide_eq_true (by omega))) rfl ?_ | refine op_y (y_gt rfl rfl (decide_eq_false (by omega))) rfl ?_ | refine op_y (y_gt rfl rfl rfl) rfl ?_)
   first | refine op_y (y_pickt rfl rfl) rfl ?_ | refine op_y (y_pickf rfl rfl) rfl ?_ | refine op_y (y_pick rfl rfl rfl) rfl ?_
   refine op_y (y_move rfl) rfl ?_
   first
    | refine op_s1 rfl rfl ⟨rfl, rfl⟩ ?_
    | refine op_s2 rfl rfl ⟨rfl, rfl⟩ ?_
    | (refine op_g rfl rfl ?_
       first | refine op_y (y_fld0 Top.fo_28_0 rfl) rfl ?_ | refine op_y (y_flda Top.fo_28_0 rfl) rfl ?_)
   first
    | refine op_s1 rfl rfl ⟨rfl, rfl⟩ ?_
    | refine op_s2 rfl rfl ⟨rfl, rfl⟩ ?_
    | (refine op_g rfl rfl ?_
       first | refine op_y (y_fld Top.fo_25_10 rfl) rfl ?_ | refine op_y (y_flda Top.fo_25_10 rfl) rfl ?_)
   first
    | refine op_s1 rfl rfl ⟨rfl, rfl⟩ ?_
    | refine op_s2 rfl rfl ⟨rfl, rfl⟩ ?_
    | (refine op_g rfl rfl ?_
       apply op_ld Top.sc_23 rfl rfl
       ·exact rm
       ·rfl)
   first
    | refine op_s1 rfl rfl ⟨rfl, rfl⟩ ?_
    | refine op_s2 rfl rfl ⟨rfl, rfl⟩ ?_
    | (refine op_g rfl rfl ?_
       refine op_y (y_len Top.un_23 rfl) rfl ?_)
   first
    | refine op_s1 rfl rfl ⟨rfl, rfl⟩ ?_
    | refine op_s2 rfl rfl ⟨rfl, rfl⟩ ?_
    | (refine op_g rfl rfl ?_
       first | refine op_y (y_gt rfl rfl (decide_eq_true (by omega))) rfl ?_ | refine op_y (y_gt rfl rfl (decide_eq_false (by omega))) rfl ?_ | refine op_y (y_gt rfl rfl rfl) rfl ?_)
   first | refine op_y (y_pickt rfl rfl) rfl ?_ | refine op_y (y_pickf rfl rfl) rfl ?_ | refine op_y (y_pick rfl rfl rfl) rfl ?_
   refine op_y (y_assign rfl) rfl ?_
   refine op_nil ?_
   refine ent_then ?_
   refine cd_ret ?_
   refine ent_ret1 rfl rfl ⟨_, ⟨rfl, rfl⟩, fun w h => ?_⟩
   apply Sat.only (h := h)
   exact sx
  ·skip
   have hE : farB l = false := by rw [farB, ← hl, h0]; simp [hg]
   rw [hE]
   refine cd_exit ?_
   refine ent_thn_exit ?_
   refine ent_then_exit ?_
   refine ent_block_exit ?_
   refine ent_then ?_
   refine cd_seq ?_
   refine cd_region [0, 0, 0, 0, 0, 1, 0, 0, 0, 0, 0, 0, 1, 0, 0, 0, 0] ?_
   refine op_y (y_move rfl) rfl ?_
   refine op_y (y_len Top.un_29 rfl) rfl ?_
   first | refine op_y (y_gt rfl rfl (decide_eq_true (by omega))) rfl ?_ | refine op_y (y_gt rfl rfl (decide_eq_false (by omega))) rfl ?_ | refine op_y (y_gt rfl rfl rfl) rfl ?_
   refine op_y (y_move rfl) rfl ?_
   first
    | refine op_s1 rfl rfl ⟨rfl, rfl⟩ ?_
    | refine op_s2 rfl rfl ⟨rfl, rfl⟩ ?_
    | (refine op_g rfl rfl ?_
       first | refine op_y (y_fld Top.fo_28_1 rfl) rfl ?_ | refine op_y (y_flda Top.fo_28_1 rfl) rfl ?_)
   first
    | refine op_s1 rfl rfl ⟨rfl, rfl⟩ ?_
    | refine op_s2 rfl rfl ⟨rfl, rfl⟩ ?_
    | (refine op_g rfl rfl ?_
       apply op_ld Top.sc_26 rfl rfl
       ·exact rm
       ·rfl)
   first
    | refine op_s1 rfl rfl ⟨rfl, rfl⟩ ?_
    | refine op_s2 rfl rfl ⟨rfl, rfl⟩ ?_
    | (refine op_g rfl rfl ?_
       refine op_y (y_len Top.un_26 rfl) rfl ?_)
   first
    | refine op_s1 rfl rfl ⟨rfl, rfl⟩ ?_
    | refine op_s2 rfl rfl ⟨rfl, rfl⟩ ?_
    | (refine op_g rfl rfl ?_
       first | refine op_y (y_gt rfl rfl (decide_eq_true (by omega))) rfl ?_ | refine op_y (y_gt rfl rfl (decide_eq_false (by omega))) rfl ?_ | refine op_y (y_gt rfl rfl rfl) rfl ?_)
   first | refine op_y (y_pickt rfl rfl) rfl ?_ | refine op_y (y_pickf rfl rfl) rfl ?_ | refine op_y (y_pick rfl rfl rfl) rfl ?_
   refine op_y (y_move rfl) rfl ?_
   first
    | refine op_s1 rfl rfl ⟨rfl, rfl⟩ ?_
    | refine op_s2 rfl rfl ⟨rfl, rfl⟩ ?_
    | (refine op_g rfl rfl ?_
       first | refine op_y (y_fld0 Top.fo_28_0 rfl) rfl ?_ | refine op_y (y_flda Top.fo_28_0 rfl) rfl ?_)
   first
    | refine op_s1 rfl rfl ⟨rfl, rfl⟩ ?_
    | refine op_s2 rfl rfl ⟨rfl, rfl⟩ ?_
    | (refine op_g rfl rfl ?_
       first | refine op_y (y_fld Top.fo_25_10 rfl) rfl ?_ | refine op_y (y_flda Top.fo_25_10 rfl) rfl ?_)
   first
    | refine op_s1 rfl rfl ⟨rfl, rfl⟩ ?_
    | refine op_s2 rfl rfl ⟨rfl, rfl⟩ ?_
    | (refine op_g rfl rfl ?_
       apply op_ld Top.sc_23 rfl rfl
       ·exact rm
       ·rfl)
   first
    | refine op_s1 rfl rfl ⟨rfl, rfl⟩ ?_
    | refine op_s2 rfl rfl ⟨rfl, rfl⟩ ?_
    | (refine op_g rfl rfl ?_
       refine op_y (y_len Top.un_23 rfl) rfl ?_)
   first
    | refine op_s1 rfl rfl ⟨rfl, rfl⟩ ?_
    | refine op_s2 rfl rfl ⟨rfl, rfl⟩ ?_
    | (refine op_g rfl rfl ?_
       first | refine op_y (y_gt rfl rfl (decide_eq_true (by omega))) rfl ?_ | refine op_y (y_gt rfl rfl (decide_eq_false (by omega))) rfl ?_ | refine op_y (y_gt rfl rfl rfl) rfl ?_)
   first | refine op_y (y_pickt rfl rfl) rfl ?_ | refine op_y (y_pickf rfl rfl) rfl ?_ | refine op_y (y_pick rfl rfl rfl) rfl ?_
   refine op_y (y_assign rfl) rfl ?_
   refine op_nil ?_
   refine ent_then ?_
   refine cd_ret ?_
   refine ent_ret1 rfl rfl ⟨_, ⟨rfl, rfl⟩, fun w h => ?_⟩
   apply Sat.only (h := h)
   exact sx
def bytesF (a : Actn) : List UInt8 := if a.kind % 8 = 3 then a.body else if putE a.hdr a.body ≠ 0 then a.body else putF a.hdr a.body
theorem bytesF_len (a : Actn) (h : a.body.length ≤ 6000) : (bytesF a).length ≤ 70000 := by
 unfold bytesF
 split
 ·omega
 ·split
  ·omega
  ·rename_i h1
   unfold putF
   rw [if_neg h1]
   simp only [List.length_append, hvs_length, List.length_cons, List.length_nil]
   omega
theorem bytes_ct (c : Cx) (a : Actn) (hok : a.ok) (hb : a.body.length ≤ 6000) : Ct Tryz.prog 15 #[.agg (Actn.cs a).toArray] c [] fun v L => v = sv (bytesF a) ∧ L = [] := by
 have hk := hok.kind
 obtain ⟨E, hE⟩ : ∃ E, E = putE a.hdr a.body := ⟨_, rfl⟩
 have hput := fun c => put_ct c a.hdr hok.hdr a.body (by omega)
 rw [← hE] at hput
 refine ct_fn (args := [.agg (Actn.cs a).toArray]) [(0, .agg (Actn.cs a).toArray)] Tryz.func15 rfl Tryz.ntmps15 rfl ⟨rfl, trivial⟩ ?_
 refine cd_seq ?_
 refine cd_region [2, 0] ?_
 refine op_boxa rfl rfl fun b1 => ?_
 refine op_y (y_assign rfl) rfl ?_
 refine op_nil ?_
 refine ent_then ?_
 refine cd_seq ?_
 refine cd_region [0, 1, 0, 1, 2, 0, 0, 0, 0, 0] ?_
 first | refine op_y (y_fld Top.fo_46_1 rfl) rfl ?_ | refine op_y (y_flda Top.fo_46_1 rfl) rfl ?_
 apply op_lda Top.ag_44 rfl rfl
 ·exact rm
 ·(first | ((try simp only [zz, splice, Nat.reduceAdd, Nat.zero_mul, Nat.zero, rlc, fl2c, cfc, pfc, pcs_, Actn.cs, Hdr.cs]) <;> rfl) | rfl)
 ·rfl
 first | refine op_y (y_fld Top.fo_46_2 rfl) rfl ?_ | refine op_y (y_flda Top.fo_46_2 rfl) rfl ?_
 apply op_ld Top.sc_9 rfl rfl
 ·exact rm
 ·rfl
 apply op_c Top.ca_45 rfl rfl (fun e he_ => hput e)
 ·exact sx
 rintro _ _ ⟨rfl, rfl⟩ G_ hG_
 simp only [zn] at hG_; subst hG_
 by_cases h3 : a.kind % 8 = 3
 ·skip
  rw [show bytesF a = a.body from if_pos h3]
  refine op_y (y_move rfl) rfl ?_
  first | refine op_y (y_extl rfl rfl) rfl ?_ | refine op_y (y_ext rfl rfl) rfl ?_
  first | refine op_y (y_extl rfl rfl) rfl ?_ | refine op_y (y_ext rfl rfl) rfl ?_
  refine op_y (y_assign rfl) rfl ?_
  refine op_y (y_assign rfl) rfl ?_
  refine op_nil ?_
  refine ent_then ?_
  refine cd_seq ?_
  refine cd_seq ?_
  refine cd_region [0, 1, 0, 0, 0, 0, 0, 0] ?_
  first | refine op_y (y_fld0 Top.fo_46_0 rfl) rfl ?_ | refine op_y (y_flda Top.fo_46_0 rfl) rfl ?_
  apply op_ld Top.sc_5 rfl rfl
  ·exact rm
  ·rfl
  first | refine op_y (y_remn rfl rfl (by omega) (by omega)) rfl ?_ | refine op_y (y_rem rfl rfl (by omega) rfl) rfl ?_
  first | refine op_y (y_eq rfl rfl (eqT (by omega))) rfl ?_ | refine op_y (y_eq rfl rfl (eqF (by omega))) rfl ?_ | refine op_y (y_eq rfl rfl rfl) rfl ?_
  refine op_y (y_move rfl) rfl ?_
  first
   | refine op_s1 rfl rfl ⟨rfl, rfl⟩ ?_
   | refine op_s2 rfl rfl ⟨rfl, rfl⟩ ?_
   | (refine op_g rfl rfl ?_
      refine op_y (y_move rfl) rfl ?_)
  first
   | refine op_s1 rfl rfl ⟨rfl, rfl⟩ ?_
   | refine op_s2 rfl rfl ⟨rfl, rfl⟩ ?_
   | (refine op_g rfl rfl ?_
      first | refine op_y (y_ne rfl rfl (neT (by omega))) rfl ?_ | refine op_y (y_ne rfl rfl (neF (by omega))) rfl ?_ | refine op_y (y_ne rfl rfl rfl) rfl ?_)
  first | refine op_y (y_pickt rfl rfl) rfl ?_ | refine op_y (y_pickf rfl rfl) rfl ?_ | refine op_y (y_pick rfl rfl rfl) rfl ?_
  refine op_nil ?_
  refine ent_then ?_
  refine cd_ift rfl ?_
  refine cd_seq ?_
  refine cd_region [0, 1, 0] ?_
  first | refine op_y (y_fld Top.fo_46_2 rfl) rfl ?_ | refine op_y (y_flda Top.fo_46_2 rfl) rfl ?_
  apply op_ld Top.sc_9 rfl rfl
  ·exact rm
  ·rfl
  refine op_y (y_assign rfl) rfl ?_
  refine op_nil ?_
  refine ent_then ?_
  refine cd_ret ?_
  refine ent_thn_ret ?_
  refine ent_ret1 rfl rfl ⟨_, ⟨rfl, rfl⟩, fun w h => h.nil_of⟩
 ·by_cases h0 : E = 0
  ·skip
   rw [show bytesF a = putF a.hdr a.body by unfold bytesF; rw [if_neg h3, ← hE, h0]; simp]
   subst h0
   refine op_y (y_move rfl) rfl ?_
   first | refine op_y (y_extl rfl rfl) rfl ?_ | refine op_y (y_ext rfl rfl) rfl ?_
   first | refine op_y (y_extl rfl rfl) rfl ?_ | refine op_y (y_ext rfl rfl) rfl ?_
   refine op_y (y_assign rfl) rfl ?_
   refine op_y (y_assign rfl) rfl ?_
   refine op_nil ?_
   refine ent_then ?_
   refine cd_seq ?_
   refine cd_seq ?_
   refine cd_region [0, 1, 0, 0, 0, 0, 0, 0] ?_
   first | refine op_y (y_fld0 Top.fo_46_0 rfl) rfl ?_ | refine op_y (y_flda Top.fo_46_0 rfl) rfl ?_
   apply op_ld Top.sc_5 rfl rfl
   ·exact rm
   ·rfl
   first | refine op_y (y_remn rfl rfl (by omega) (by omega)) rfl ?_ | refine op_y (y_rem rfl rfl (by omega) rfl) rfl ?_
   first | refine op_y (y_eq rfl rfl (eqT (by omega))) rfl ?_ | refine op_y (y_eq rfl rfl (eqF (by omega))) rfl ?_ | refine op_y (y_eq rfl rfl rfl) rfl ?_
   refine op_y (y_move rfl) rfl ?_
   first
    | refine op_s1 rfl rfl ⟨rfl, rfl⟩ ?_
    | refine op_s2 rfl rfl ⟨rfl, rfl⟩ ?_
    | (refine op_g rfl rfl ?_
       refine op_y (y_move rfl) rfl ?_)
   first
    | refine op_s1 rfl rfl ⟨rfl, rfl⟩ ?_
    | refine op_s2 rfl rfl ⟨rfl, rfl⟩ ?_
    | (refine op_g rfl rfl ?_
       first | refine op_y (y_ne rfl rfl (neT (by omega))) rfl ?_ | refine op_y (y_ne rfl rfl (neF (by omega))) rfl ?_ | refine op_y (y_ne rfl rfl rfl) rfl ?_)
   first | refine op_y (y_pickt rfl rfl) rfl ?_ | refine op_y (y_pickf rfl rfl) rfl ?_ | refine op_y (y_pick rfl rfl rfl) rfl ?_
   refine op_nil ?_
   refine ent_then ?_
   refine cd_iff rfl ?_
   refine cd_skip ?_
   refine ent_then ?_
   refine cd_seq ?_
   refine cd_region [0, 0] ?_
   refine op_y (y_move rfl) rfl ?_
   refine op_y (y_assign rfl) rfl ?_
   refine op_nil ?_
   refine ent_then ?_
   refine cd_ret ?_
   refine ent_ret1 rfl rfl ⟨_, ⟨rfl, rfl⟩, fun w h => h.nil_of⟩
  ·skip
   rw [show bytesF a = a.body by unfold bytesF; rw [if_neg h3, ← hE, if_pos h0]]
   refine op_y (y_move rfl) rfl ?_
   first | refine op_y (y_extl rfl rfl) rfl ?_ | refine op_y (y_ext rfl rfl) rfl ?_
   first | refine op_y (y_extl rfl rfl) rfl ?_ | refine op_y (y_ext rfl rfl) rfl ?_
   refine op_y (y_assign rfl) rfl ?_
   refine op_y (y_assign rfl) rfl ?_
   refine op_nil ?_
   refine ent_then ?_
   refine cd_seq ?_
   refine cd_seq ?_
   refine cd_region [0, 1, 0, 0, 0, 0, 0, 0] ?_
   first | refine op_y (y_fld0 Top.fo_46_0 rfl) rfl ?_ | refine op_y (y_flda Top.fo_46_0 rfl) rfl ?_
   apply op_ld Top.sc_5 rfl rfl
   ·exact rm
   ·rfl
   first | refine op_y (y_remn rfl rfl (by omega) (by omega)) rfl ?_ | refine op_y (y_rem rfl rfl (by omega) rfl) rfl ?_
   first | refine op_y (y_eq rfl rfl (eqT (by omega))) rfl ?_ | refine op_y (y_eq rfl rfl (eqF (by omega))) rfl ?_ | refine op_y (y_eq rfl rfl rfl) rfl ?_
   refine op_y (y_move rfl) rfl ?_
   first
    | refine op_s1 rfl rfl ⟨rfl, rfl⟩ ?_
    | refine op_s2 rfl rfl ⟨rfl, rfl⟩ ?_
    | (refine op_g rfl rfl ?_
       refine op_y (y_move rfl) rfl ?_)
   first
    | refine op_s1 rfl rfl ⟨rfl, rfl⟩ ?_
    | refine op_s2 rfl rfl ⟨rfl, rfl⟩ ?_
    | (refine op_g rfl rfl ?_
       first | refine op_y (y_ne rfl rfl (neT (by omega))) rfl ?_ | refine op_y (y_ne rfl rfl (neF (by omega))) rfl ?_ | refine op_y (y_ne rfl rfl rfl) rfl ?_)
   first | refine op_y (y_pickt rfl rfl) rfl ?_ | refine op_y (y_pickf rfl rfl) rfl ?_ | refine op_y (y_pick rfl rfl rfl) rfl ?_
   refine op_nil ?_
   refine ent_then ?_
   refine cd_ift rfl ?_
   refine cd_seq ?_
   refine cd_region [0, 1, 0] ?_
   first | refine op_y (y_fld Top.fo_46_2 rfl) rfl ?_ | refine op_y (y_flda Top.fo_46_2 rfl) rfl ?_
   apply op_ld Top.sc_9 rfl rfl
   ·exact rm
   ·rfl
   refine op_y (y_assign rfl) rfl ?_
   refine op_nil ?_
   refine ent_then ?_
   refine cd_ret ?_
   refine ent_thn_ret ?_
   refine ent_ret1 rfl rfl ⟨_, ⟨rfl, rfl⟩, fun w h => h.nil_of⟩
end Go.Proofs.YtfkadaodnaaceaaGreatDoor
/- What leaves is what came first. -/
namespace Go.Proofs.YtfkadaodnaaceaaGreatDoor
open Go Go.SL
theorem Top2.ca_19 : callable Tryz.prog 19 = true := by kernel_rfl
theorem Top2.sc_9 : scalarT Tryz.prog 9 = true := by kernel_rfl
theorem Top2.sc_32 : scalarT Tryz.prog 32 = true := by kernel_rfl
theorem Top2.sc_68 : scalarT Tryz.prog 68 = true := by kernel_rfl
theorem Top2.sl_68 : sliceK Tryz.prog 68 = some (9, 1, 16) := by kernel_rfl
theorem Top2.sz_68 : sizeK Tryz.prog 68 = some 1 := by kernel_rfl
theorem Top2.un_68 : Tryz.prog.underlying 68 = some (.slice 9) := by kernel_rfl
set_option maxRecDepth 100000
set_option maxHeartbeats 1000000
abbrev lvL (p kd num b8 b10 : Nat) (cal : Bool) (x : SS) (M : MV) (A : Option Addr) (m k : Nat) (cs : List Value) : List As := [portI p kd cal x M num, tabA, pt b8 32 [.pointer (some ⟨p, 0, none⟩)], pt b10 68 [.slice A m k], ownW 9 1 A m k cs]
theorem lvNone_ct (c : Cx) (p kd num : Nat) (cal : Bool) (x : SS) (M : MV) (W : List (List UInt8)) (h : TW kd x M num W) (hI : x.I = []) : Ct Tryz.prog 19 #[.pointer (some ⟨p, 0, none⟩)] c [portI p kd cal x M num, tabA]
 fun v L => v = .tuple #[sv [], .int .i64 18] ∧ L = [portI p kd cal x M num, tabA] := by
 obtain ⟨h1, h2, h3⟩ := h.none hI
 refine (leave_ct c p kd num cal x M h.ok).mono fun v L ⟨hv, hL⟩ => ?_
 rw [h1] at hv; rw [if_neg h3, h2] at hL
 exact ⟨hv, hL⟩
theorem lvLate_ct (c : Cx) (p kd num : Nat) (cal : Bool) (x : SS) (M : MV) (W : List (List UInt8)) (h : TW kd x M num W) {y : It} {r : List It} (hI : x.I = y :: r) (ht : x.tok < y.pk.len) : Ct Tryz.prog 19 #[.pointer (some ⟨p, 0, none⟩)] c [portI p kd cal x M num, tabA]
 fun v L => v = .tuple #[sv [], .int .i64 19] ∧ L = [portI p kd cal x M num, tabA] := by
 obtain ⟨h1, h2, h3⟩ := h.late hI ht
 refine (leave_ct c p kd num cal x M h.ok).mono fun v L ⟨hv, hL⟩ => ?_
 rw [h1] at hv; rw [if_neg h3, h2] at hL
 exact ⟨hv, hL⟩
theorem lvHead_ct (c : Cx) (p kd num : Nat) (cal : Bool) (x : SS) (M : MV) (u : List UInt8) (W : List (List UInt8)) (h : TW kd x M num (u :: W)) {y : It} {r : List It} (hI : x.I = y :: r) (ht : ¬ x.tok < y.pk.len) : Ct Tryz.prog 19 #[.pointer (some ⟨p, 0, none⟩)] c [portI p kd cal x M num, tabA]
 fun v L => v = .tuple #[sv u, .int .i64 0] ∧ L = [portI p kd cal (x.pop kd) (MDel (y.pk.id : Int) M) num, tabA] := by
 obtain ⟨h1, h2, h3⟩ := h.head hI ht
 refine (leave_ct c p kd num cal x M h.ok).mono fun v L ⟨hv, hL⟩ => ?_
 rw [h1] at hv; rw [if_pos h3, h2] at hL
 exact ⟨hv, hL⟩
theorem leaves0_ct (c : Cx) (p kd num b8 b10 k : Nat) (cal : Bool) (x : SS) (M : MV) (A : Option Addr) (cs : List Value) (h : TW kd x M num []) (hI : x.I = []) : Ct Tryz.prog 43 #[.pointer (some ⟨b8, 0, none⟩), .pointer (some ⟨b10, 0, none⟩)] c (lvL p kd num b8 b10 cal x M A 0 k cs)
 fun v L => v = .bool true ∧ L = lvL p kd num b8 b10 cal x M A 0 k cs := by
 refine ct_fn (args := [.pointer (some ⟨b8, 0, none⟩), .pointer (some ⟨b10, 0, none⟩)]) [(0, .pointer (some ⟨b8, 0, none⟩)), (1, .pointer (some ⟨b10, 0, none⟩))] Tryz.func43 rfl Tryz.ntmps43 rfl ⟨rfl, rfl, trivial⟩ ?_
 refine cd_seq ?_
 refine cd_region [0] ?_
 refine op_y (y_assign rfl) rfl ?_
 refine op_nil ?_
 refine ent_then ?_
 refine cd_seq ?_
 refine cd_region [1, 2, 0, 0, 0, 0, 0] ?_
 apply op_ld Top2.sc_32 rfl rfl
 ·exact rm
 ·rfl
 apply op_c Top2.ca_19 rfl rfl (fun e he_ => lvNone_ct e p kd num cal x M [] h hI)
 ·exact sx
 rintro _ _ ⟨rfl, rfl⟩ G_ hG_
 simp only [zn] at hG_; subst hG_
 refine op_y (y_move rfl) rfl ?_
 first | refine op_y (y_extl rfl rfl) rfl ?_ | refine op_y (y_ext rfl rfl) rfl ?_
 first | refine op_y (y_extl rfl rfl) rfl ?_ | refine op_y (y_ext rfl rfl) rfl ?_
 refine op_y (y_assign rfl) rfl ?_
 refine op_y (y_assign rfl) rfl ?_
 refine op_nil ?_
 refine ent_then ?_
 refine cd_seq ?_
 refine cd_seq ?_
 refine cd_region [0, 0] ?_
 refine op_y (y_move rfl) rfl ?_
 first | refine op_y (y_ne rfl rfl (neT (by omega))) rfl ?_ | refine op_y (y_ne rfl rfl (neF (by omega))) rfl ?_ | refine op_y (y_ne rfl rfl rfl) rfl ?_
 refine op_nil ?_
 refine ent_then ?_
 refine cd_ift rfl ?_
 refine cd_seq ?_
 refine cd_region [0, 0, 0, 1, 0, 0, 0, 0, 0, 0, 0, 1, 0, 0, 0, 0, 0] ?_
 refine op_y (y_move rfl) rfl ?_
 first | refine op_y (y_eq rfl rfl (eqT (by omega))) rfl ?_ | refine op_y (y_eq rfl rfl (eqF (by omega))) rfl ?_ | refine op_y (y_eq rfl rfl rfl) rfl ?_
 refine op_y (y_move rfl) rfl ?_
 first
  | refine op_s1 rfl rfl ⟨rfl, rfl⟩ ?_
  | refine op_s2 rfl rfl ⟨rfl, rfl⟩ ?_
  | (refine op_g rfl rfl ?_
     apply op_ld Top2.sc_68 rfl rfl
     ·exact rm
     ·rfl)
 first
  | refine op_s1 rfl rfl ⟨rfl, rfl⟩ ?_
  | refine op_s2 rfl rfl ⟨rfl, rfl⟩ ?_
  | (refine op_g rfl rfl ?_
     refine op_y (y_len Top2.un_68 rfl) rfl ?_)
 first
  | refine op_s1 rfl rfl ⟨rfl, rfl⟩ ?_
  | refine op_s2 rfl rfl ⟨rfl, rfl⟩ ?_
  | (refine op_g rfl rfl ?_
     first | refine op_y (y_gt rfl rfl (decide_eq_true (by omega))) rfl ?_ | refine op_y (y_gt rfl rfl (decide_eq_false (by omega))) rfl ?_ | refine op_y (y_gt rfl rfl rfl) rfl ?_)
 first | refine op_y (y_pickt rfl rfl) rfl ?_ | refine op_y (y_pickf rfl rfl) rfl ?_ | refine op_y (y_pick rfl rfl rfl) rfl ?_
 refine op_y (y_move rfl) rfl ?_
 first
  | refine op_s1 rfl rfl ⟨rfl, rfl⟩ ?_
  | refine op_s2 rfl rfl ⟨rfl, rfl⟩ ?_
  | (refine op_g rfl rfl ?_
     refine op_y (y_move rfl) rfl ?_)
 first
  | refine op_s1 rfl rfl ⟨rfl, rfl⟩ ?_
  | refine op_s2 rfl rfl ⟨rfl, rfl⟩ ?_
  | (refine op_g rfl rfl ?_
     first | refine op_y (y_eq rfl rfl (eqT (by omega))) rfl ?_ | refine op_y (y_eq rfl rfl (eqF (by omega))) rfl ?_ | refine op_y (y_eq rfl rfl rfl) rfl ?_)
 first
  | refine op_s1 rfl rfl ⟨rfl, rfl⟩ ?_
  | refine op_s2 rfl rfl ⟨rfl, rfl⟩ ?_
  | (refine op_g rfl rfl ?_
     refine op_y (y_move rfl) rfl ?_)
 first
  | refine op_s1 rfl rfl ⟨rfl, rfl⟩ ?_
  | refine op_s2 rfl rfl ⟨rfl, rfl⟩ ?_
  | (refine op_g rfl rfl ?_
     apply op_ld Top2.sc_68 rfl rfl
     ·exact rm
     ·rfl)
 first
  | refine op_s1 rfl rfl ⟨rfl, rfl⟩ ?_
  | refine op_s2 rfl rfl ⟨rfl, rfl⟩ ?_
  | (refine op_g rfl rfl ?_
     refine op_y (y_len Top2.un_68 rfl) rfl ?_)
 first
  | refine op_s1 rfl rfl ⟨rfl, rfl⟩ ?_
  | refine op_s2 rfl rfl ⟨rfl, rfl⟩ ?_
  | (refine op_g rfl rfl ?_
     first | refine op_y (y_eq rfl rfl (eqT (by omega))) rfl ?_ | refine op_y (y_eq rfl rfl (eqF (by omega))) rfl ?_ | refine op_y (y_eq rfl rfl rfl) rfl ?_)
 first
  | refine op_s1 rfl rfl ⟨rfl, rfl⟩ ?_
  | refine op_s2 rfl rfl ⟨rfl, rfl⟩ ?_
  | (refine op_g rfl rfl ?_
     first | refine op_y (y_pickt rfl rfl) rfl ?_ | refine op_y (y_pickf rfl rfl) rfl ?_ | refine op_y (y_pick rfl rfl rfl) rfl ?_)
 first | refine op_y (y_pickt rfl rfl) rfl ?_ | refine op_y (y_pickf rfl rfl) rfl ?_ | refine op_y (y_pick rfl rfl rfl) rfl ?_
 refine op_y (y_assign rfl) rfl ?_
 refine op_nil ?_
 refine ent_then ?_
 refine cd_ret ?_
 refine ent_thn_ret ?_
 refine ent_ret1 rfl rfl ⟨_, ⟨rfl, rfl⟩, fun w h => ?_⟩
 apply Sat.only (h := h)
 exact sx
theorem leaves1_ct (c : Cx) (p kd num b8 b10 k m : Nat) (cal : Bool) (x : SS) (M : MV) (A : Option Addr) (cs : List Value) (W : List (List UInt8)) (h : TW kd x M num W) (hm : 0 < m) {y : It} {r : List It} (hI : x.I = y :: r) (ht : x.tok < y.pk.len) :
 Ct Tryz.prog 43 #[.pointer (some ⟨b8, 0, none⟩), .pointer (some ⟨b10, 0, none⟩)] c (lvL p kd num b8 b10 cal x M A m k cs)
 fun v L => v = .bool true ∧ L = lvL p kd num b8 b10 cal x M A m k cs := by
 refine ct_fn (args := [.pointer (some ⟨b8, 0, none⟩), .pointer (some ⟨b10, 0, none⟩)]) [(0, .pointer (some ⟨b8, 0, none⟩)), (1, .pointer (some ⟨b10, 0, none⟩))] Tryz.func43 rfl Tryz.ntmps43 rfl ⟨rfl, rfl, trivial⟩ ?_
 refine cd_seq ?_
 refine cd_region [0] ?_
 refine op_y (y_assign rfl) rfl ?_
 refine op_nil ?_
 refine ent_then ?_
 refine cd_seq ?_
 refine cd_region [1, 2, 0, 0, 0, 0, 0] ?_
 apply op_ld Top2.sc_32 rfl rfl
 ·exact rm
 ·rfl
 apply op_c Top2.ca_19 rfl rfl (fun e he_ => lvLate_ct e p kd num cal x M W h hI ht)
 ·exact sx
 rintro _ _ ⟨rfl, rfl⟩ G_ hG_
 simp only [zn] at hG_; subst hG_
 refine op_y (y_move rfl) rfl ?_
 first | refine op_y (y_extl rfl rfl) rfl ?_ | refine op_y (y_ext rfl rfl) rfl ?_
 first | refine op_y (y_extl rfl rfl) rfl ?_ | refine op_y (y_ext rfl rfl) rfl ?_
 refine op_y (y_assign rfl) rfl ?_
 refine op_y (y_assign rfl) rfl ?_
 refine op_nil ?_
 refine ent_then ?_
 refine cd_seq ?_
 refine cd_seq ?_
 refine cd_region [0, 0] ?_
 refine op_y (y_move rfl) rfl ?_
 first | refine op_y (y_ne rfl rfl (neT (by omega))) rfl ?_ | refine op_y (y_ne rfl rfl (neF (by omega))) rfl ?_ | refine op_y (y_ne rfl rfl rfl) rfl ?_
 refine op_nil ?_
 refine ent_then ?_
 refine cd_ift rfl ?_
 refine cd_seq ?_
 refine cd_region [0, 0, 0, 1, 0, 0, 0, 0, 0, 0, 0, 1, 0, 0, 0, 0, 0] ?_
 refine op_y (y_move rfl) rfl ?_
 first | refine op_y (y_eq rfl rfl (eqT (by omega))) rfl ?_ | refine op_y (y_eq rfl rfl (eqF (by omega))) rfl ?_ | refine op_y (y_eq rfl rfl rfl) rfl ?_
 refine op_y (y_move rfl) rfl ?_
 first
  | refine op_s1 rfl rfl ⟨rfl, rfl⟩ ?_
  | refine op_s2 rfl rfl ⟨rfl, rfl⟩ ?_
  | (refine op_g rfl rfl ?_
     apply op_ld Top2.sc_68 rfl rfl
     ·exact rm
     ·rfl)
 first
  | refine op_s1 rfl rfl ⟨rfl, rfl⟩ ?_
  | refine op_s2 rfl rfl ⟨rfl, rfl⟩ ?_
  | (refine op_g rfl rfl ?_
     refine op_y (y_len Top2.un_68 rfl) rfl ?_)
 first
  | refine op_s1 rfl rfl ⟨rfl, rfl⟩ ?_
  | refine op_s2 rfl rfl ⟨rfl, rfl⟩ ?_
  | (refine op_g rfl rfl ?_
     first | refine op_y (y_gt rfl rfl (decide_eq_true (by omega))) rfl ?_ | refine op_y (y_gt rfl rfl (decide_eq_false (by omega))) rfl ?_ | refine op_y (y_gt rfl rfl rfl) rfl ?_)
 first | refine op_y (y_pickt rfl rfl) rfl ?_ | refine op_y (y_pickf rfl rfl) rfl ?_ | refine op_y (y_pick rfl rfl rfl) rfl ?_
 refine op_y (y_move rfl) rfl ?_
 first
  | refine op_s1 rfl rfl ⟨rfl, rfl⟩ ?_
  | refine op_s2 rfl rfl ⟨rfl, rfl⟩ ?_
  | (refine op_g rfl rfl ?_
     refine op_y (y_move rfl) rfl ?_)
 first
  | refine op_s1 rfl rfl ⟨rfl, rfl⟩ ?_
  | refine op_s2 rfl rfl ⟨rfl, rfl⟩ ?_
  | (refine op_g rfl rfl ?_
     first | refine op_y (y_eq rfl rfl (eqT (by omega))) rfl ?_ | refine op_y (y_eq rfl rfl (eqF (by omega))) rfl ?_ | refine op_y (y_eq rfl rfl rfl) rfl ?_)
 first
  | refine op_s1 rfl rfl ⟨rfl, rfl⟩ ?_
  | refine op_s2 rfl rfl ⟨rfl, rfl⟩ ?_
  | (refine op_g rfl rfl ?_
     refine op_y (y_move rfl) rfl ?_)
 first
  | refine op_s1 rfl rfl ⟨rfl, rfl⟩ ?_
  | refine op_s2 rfl rfl ⟨rfl, rfl⟩ ?_
  | (refine op_g rfl rfl ?_
     apply op_ld Top2.sc_68 rfl rfl
     ·exact rm
     ·rfl)
 first
  | refine op_s1 rfl rfl ⟨rfl, rfl⟩ ?_
  | refine op_s2 rfl rfl ⟨rfl, rfl⟩ ?_
  | (refine op_g rfl rfl ?_
     refine op_y (y_len Top2.un_68 rfl) rfl ?_)
 first
  | refine op_s1 rfl rfl ⟨rfl, rfl⟩ ?_
  | refine op_s2 rfl rfl ⟨rfl, rfl⟩ ?_
  | (refine op_g rfl rfl ?_
     first | refine op_y (y_eq rfl rfl (eqT (by omega))) rfl ?_ | refine op_y (y_eq rfl rfl (eqF (by omega))) rfl ?_ | refine op_y (y_eq rfl rfl rfl) rfl ?_)
 first
  | refine op_s1 rfl rfl ⟨rfl, rfl⟩ ?_
  | refine op_s2 rfl rfl ⟨rfl, rfl⟩ ?_
  | (refine op_g rfl rfl ?_
     first | refine op_y (y_pickt rfl rfl) rfl ?_ | refine op_y (y_pickf rfl rfl) rfl ?_ | refine op_y (y_pick rfl rfl rfl) rfl ?_)
 first | refine op_y (y_pickt rfl rfl) rfl ?_ | refine op_y (y_pickf rfl rfl) rfl ?_ | refine op_y (y_pick rfl rfl rfl) rfl ?_
 refine op_y (y_assign rfl) rfl ?_
 refine op_nil ?_
 refine ent_then ?_
 refine cd_ret ?_
 refine ent_thn_ret ?_
 refine ent_ret1 rfl rfl ⟨_, ⟨rfl, rfl⟩, fun w h => ?_⟩
 apply Sat.only (h := h)
 exact sx
theorem leaves2_ct (c : Cx) (p kd num b8 b10 k b o : Nat) (cal : Bool) (x : SS) (M : MV) (u : List UInt8) (W : List (List UInt8)) (h : TW kd x M num (u :: W)) {y : It} {r : List It} (hI : x.I = y :: r) (ht : ¬ x.tok < y.pk.len) :
 Ct Tryz.prog 43 #[.pointer (some ⟨b8, 0, none⟩), .pointer (some ⟨b10, 0, none⟩)] c (lvL p kd num b8 b10 cal x M (some ⟨b, o, none⟩) (W.length + 1) k (sv u :: W.map sv))
 fun v L => v = .bool true ∧ ∃ A' k', L = lvL p kd num b8 b10 cal (x.pop kd) (MDel (y.pk.id : Int) M) A' W.length k' (W.map sv) := by
 obtain ⟨m, hm⟩ : ∃ m, m = W.length := ⟨_, rfl⟩
 rw [← hm]
 obtain ⟨cs, hcs⟩ : ∃ cs, cs = W.map sv := ⟨_, rfl⟩
 rw [← hcs]
 obtain ⟨x', hx'⟩ : ∃ x', x' = x.pop kd := ⟨_, rfl⟩
 obtain ⟨M', hM'⟩ : ∃ M', M' = MDel (y.pk.id : Int) M := ⟨_, rfl⟩
 have hct := fun c => lvHead_ct c p kd num cal x M u W h hI ht
 rw [← hx', ← hM'] at hct ⊢
 refine ct_fn (args := [.pointer (some ⟨b8, 0, none⟩), .pointer (some ⟨b10, 0, none⟩)]) [(0, .pointer (some ⟨b8, 0, none⟩)), (1, .pointer (some ⟨b10, 0, none⟩))] Tryz.func43 rfl Tryz.ntmps43 rfl ⟨rfl, rfl, trivial⟩ ?_
 refine cd_seq ?_
 refine cd_region [0] ?_
 refine op_y (y_assign rfl) rfl ?_
 refine op_nil ?_
 refine ent_then ?_
 refine cd_seq ?_
 refine cd_region [1, 2, 0, 0, 0, 0, 0] ?_
 apply op_ld Top2.sc_32 rfl rfl
 ·exact rm
 ·rfl
 apply op_c Top2.ca_19 rfl rfl (fun e he_ => hct e)
 ·exact sx
 rintro _ _ ⟨rfl, rfl⟩ G_ hG_
 simp only [zn] at hG_; subst hG_
 refine op_y (y_move rfl) rfl ?_
 first | refine op_y (y_extl rfl rfl) rfl ?_ | refine op_y (y_ext rfl rfl) rfl ?_
 first | refine op_y (y_extl rfl rfl) rfl ?_ | refine op_y (y_ext rfl rfl) rfl ?_
 refine op_y (y_assign rfl) rfl ?_
 refine op_y (y_assign rfl) rfl ?_
 refine op_nil ?_
 refine ent_then ?_
 refine cd_seq ?_
 refine cd_seq ?_
 refine cd_region [0, 0] ?_
 refine op_y (y_move rfl) rfl ?_
 first | refine op_y (y_ne rfl rfl (neT (by omega))) rfl ?_ | refine op_y (y_ne rfl rfl (neF (by omega))) rfl ?_ | refine op_y (y_ne rfl rfl rfl) rfl ?_
 refine op_nil ?_
 refine ent_then ?_
 refine cd_iff rfl ?_
 refine cd_skip ?_
 refine ent_then ?_
 refine cd_seq ?_
 refine cd_seq ?_
 refine cd_region [1, 0, 0, 0, 0, 1, 0, 1, 0, 0] ?_
 apply op_ld Top2.sc_68 rfl rfl
 ·exact rm
 ·rfl
 refine op_y (y_len Top2.un_68 rfl) rfl ?_
 first | refine op_y (y_eq rfl rfl (eqT (by omega))) rfl ?_ | refine op_y (y_eq rfl rfl (eqF (by omega))) rfl ?_ | refine op_y (y_eq rfl rfl rfl) rfl ?_
 refine op_y (y_move rfl) rfl ?_
 first
  | refine op_s1 rfl rfl ⟨rfl, rfl⟩ ?_
  | refine op_s2 rfl rfl ⟨rfl, rfl⟩ ?_
  | (refine op_g rfl rfl ?_
     refine op_y (y_move rfl) rfl ?_)
 first
  | refine op_s1 rfl rfl ⟨rfl, rfl⟩ ?_
  | refine op_s2 rfl rfl ⟨rfl, rfl⟩ ?_
  | (refine op_g rfl rfl ?_
     apply op_ld Top2.sc_68 rfl rfl
     ·exact rm
     ·rfl)
 refine op_g rfl rfl ?_
 first | refine op_y (y_ix0 (j := 0) Top2.sl_68 rfl rfl (by omega) (by omega)) rfl ?_ | refine op_y (y_ix (j := 0) Top2.sl_68 rfl rfl (by omega) (by omega)) rfl ?_ | refine op_y (y_ixa (j := 0) Top2.sl_68 rfl rfl (by omega) (by omega)) rfl ?_
 refine op_g rfl rfl ?_
 refine op_ldp Top2.sc_9 rfl rfl (ownW_rd (j := 0) (by exact rm) rfl) ?_
 refine op_g rfl rfl ?_
 refine op_y (y_sne (r := false) rfl rfl (by simp)) rfl ?_
 first | refine op_y (y_pickt rfl rfl) rfl ?_ | refine op_y (y_pickf rfl rfl) rfl ?_ | refine op_y (y_pick rfl rfl rfl) rfl ?_
 refine op_nil ?_
 refine ent_then ?_
 refine cd_iff rfl ?_
 refine cd_skip ?_
 refine ent_then ?_
 refine cd_seq ?_
 refine cd_region [1, 0, 2] ?_
 apply op_ld Top2.sc_68 rfl rfl
 ·exact rm
 ·rfl
 refine op_y (y_sloi (e := 9) (sz := 1) (bs := 16) (j := 1) (by kernel_rfl) rfl rfl rfl (by omega)) rfl ?_
 apply op_st1 Top2.sz_68 rfl rfl rfl
 ·exact rm
 ·rfl
 ·(first | ((try simp only [zz, splice, Nat.reduceAdd, Nat.zero_mul]) <;> rfl) | rfl)
 refine op_nil ?_
 refine ent_then ?_
 refine cd_seq ?_
 refine cd_region [0] ?_
 refine op_y (y_assign rfl) rfl ?_
 refine op_nil ?_
 refine ent_then ?_
 refine cd_ret ?_
 refine ent_ret1 rfl rfl ⟨_, ⟨rfl, (if k = 1 then some ⟨b, o, none⟩ else some ⟨b, o + 1 * 1, none⟩), k - 1, rfl⟩, fun w h => ?_⟩
 replace h : Sat [pt b10 68 [.slice (if k = 1 then some ⟨b, o, none⟩ else some ⟨b, o + 1 * 1, none⟩) m (k - 1)], portI p kd cal x' M' num, tabA, pt b8 32 [.pointer (some ⟨p, 0, none⟩)], ownW 9 1 (some ⟨b, o, none⟩) (m + 1) k (sv u :: cs)] c w := h
 replace h : Sat [ownW 9 1 (some ⟨b, o, none⟩) (m + 1) k (sv u :: cs), pt b10 68 [.slice (if k = 1 then some ⟨b, o, none⟩ else some ⟨b, o + 1 * 1, none⟩) m (k - 1)], portI p kd cal x' M' num, tabA, pt b8 32 [.pointer (some ⟨p, 0, none⟩)]] c w := by
  apply Sat.only (h := h)
  exact sx
 have h2 := ownW_drop (k := 1) (by omega) h
 replace h2 : Sat [ownW 9 1 (if k = 1 then some ⟨b, o, none⟩ else some ⟨b, o + 1 * 1, none⟩) m (k - 1) cs, pt b10 68 [.slice (if k = 1 then some ⟨b, o, none⟩ else some ⟨b, o + 1 * 1, none⟩) m (k - 1)], portI p kd cal x' M' num, tabA, pt b8 32 [.pointer (some ⟨p, 0, none⟩)]] c w := h2
 apply Sat.only (h := h2)
 exact sx
end Go.Proofs.YtfkadaodnaaceaaGreatDoor
/- TopLine: whatever comes, what leaves is what came first. -/
namespace Go.Proofs.YtfkadaodnaaceaaGreatDoor
open Go Go.SL
theorem Top3.ag_28 : aggK Tryz.prog 28 = some 16 := by kernel_rfl
theorem Top3.ag_46 : aggK Tryz.prog 46 = some 10 := by kernel_rfl
theorem Top3.ca_8 : callable Tryz.prog 8 = true := by kernel_rfl
theorem Top3.ca_9 : callable Tryz.prog 9 = true := by kernel_rfl
theorem Top3.ca_10 : callable Tryz.prog 10 = true := by kernel_rfl
theorem Top3.ca_14 : callable Tryz.prog 14 = true := by kernel_rfl
theorem Top3.ca_15 : callable Tryz.prog 15 = true := by kernel_rfl
theorem Top3.ca_17 : callable Tryz.prog 17 = true := by kernel_rfl
theorem Top3.ca_42 : callable Tryz.prog 42 = true := by kernel_rfl
theorem Top3.ca_43 : callable Tryz.prog 43 = true := by kernel_rfl
theorem Top3.ca_44 : callable Tryz.prog 44 = true := by kernel_rfl
theorem Top3.fo_25_0 : fieldOff Tryz.prog 25 0 = some 0 := by kernel_rfl
theorem Top3.fo_25_1 : fieldOff Tryz.prog 25 1 = some 1 := by kernel_rfl
theorem Top3.fo_28_0 : fieldOff Tryz.prog 28 0 = some 0 := by kernel_rfl
theorem Top3.fo_46_0 : fieldOff Tryz.prog 46 0 = some 0 := by kernel_rfl
theorem Top3.fo_46_3 : fieldOff Tryz.prog 46 3 = some 9 := by kernel_rfl
theorem Top3.sc_5 : scalarT Tryz.prog 5 = true := by kernel_rfl
theorem Top3.sc_22 : scalarT Tryz.prog 22 = true := by kernel_rfl
theorem Top3.sc_32 : scalarT Tryz.prog 32 = true := by kernel_rfl
theorem Top3.sc_68 : scalarT Tryz.prog 68 = true := by kernel_rfl
theorem Top3.sl_29 : sliceK Tryz.prog 29 = some (46, 10, 48) := by kernel_rfl
theorem Top3.sl_68 : sliceK Tryz.prog 68 = some (9, 1, 16) := by kernel_rfl
theorem Top3.sz_3 : sizeK Tryz.prog 3 = some 1 := by kernel_rfl
theorem Top3.sz_28 : sizeK Tryz.prog 28 = some 16 := by kernel_rfl
theorem Top3.sz_32 : sizeK Tryz.prog 32 = some 1 := by kernel_rfl
theorem Top3.sz_46 : sizeK Tryz.prog 46 = some 10 := by kernel_rfl
theorem Top3.sz_68 : sizeK Tryz.prog 68 = some 1 := by kernel_rfl
theorem Top3.un_29 : Tryz.prog.underlying 29 = some (.slice 46) := by kernel_rfl
theorem Top3.un_32 : Tryz.prog.underlying 32 = some (.pointer 125) := by kernel_rfl
theorem Top3.un_68 : Tryz.prog.underlying 68 = some (.slice 9) := by kernel_rfl
theorem Top3.ze_9 : zeroC Tryz.prog 9 = some [.string ⟨#[]⟩] := by kernel_rfl
theorem Top3.ze_28 : zeroC Tryz.prog 28 = some [.int .i64 0, .int .i64 0, .int .i64 0, .int .i64 0, .int .i64 0, .int .u64 0, .int .i64 0, .int .u64 0, .int .u64 0, .int .u64 0, .slice none 0 0, .slice none 0 0, .int .u64 0, .int .u64 0, .int .u64 0, .int .u8 0] := by kernel_rfl
theorem Top3.ze_32 : zeroC Tryz.prog 32 = some [.pointer none] := by kernel_rfl
theorem Top3.ze_46 : zeroC Tryz.prog 46 = some [.int .u8 0, .int .u8 0, .int .u16 0, .int .u8 0, .int .u32 0, .int .u32 0, .int .u16 0, .int .u16 0, .string ⟨#[]⟩, .int .u64 0] := by kernel_rfl
theorem Top3.ze_68 : zeroC Tryz.prog 68 = some [.slice none 0 0] := by kernel_rfl
set_option maxRecDepth 100000
set_option maxHeartbeats 2000000
theorem leaves_ct (c : Cx) (p kd num b8 b10 k : Nat) (cal : Bool) (x : SS) (M : MV) (A : Option Addr) (W : List (List UInt8)) (h : TW kd x M num W) (hkd : kd = 1 ∨ kd = 2) :
 Ct Tryz.prog 43 #[.pointer (some ⟨b8, 0, none⟩), .pointer (some ⟨b10, 0, none⟩)] c (lvL p kd num b8 b10 cal x M A W.length k (W.map sv))
 fun v L => v = .bool true ∧ ∃ x' M' W' A' k', TW kd x' M' num W' ∧ (x.tok = 1000 → W ≠ [] → W'.length + 1 = W.length) ∧ L = lvL p kd num b8 b10 cal x' M' A' W'.length k' (W'.map sv) := by
 have hwl := h.wl
 match W, hwl with
 | [], hwl =>
  have hI : x.I = [] := List.eq_nil_of_length_eq_zero hwl
  refine (leaves0_ct c p kd num b8 b10 k cal x M A _ h hI).mono fun v L ⟨hv, hL⟩ => ?_
  exact ⟨hv, x, M, [], A, k, h, fun _ hn => absurd rfl hn, hL⟩
 | u :: W, hwl =>
  match hI : x.I with
  | [] => rw [hI] at hwl; simp at hwl
  | y :: r =>
   by_cases ht : x.tok < y.pk.len
   ·refine (leaves1_ct c p kd num b8 b10 k _ cal x M A _ _ h (by simp) hI ht).mono fun v L ⟨hv, hL⟩ => ?_
    refine ⟨hv, x, M, u :: W, A, k, h, fun h1 _ => ?_, hL⟩
    have := h.ln y (by rw [hI]; simp)
    omega
   ·intro w hw
    have hc := ownW_cases (Sat.rem (show Rem (lvL p kd num b8 b10 cal x M A (u :: W).length k ((u :: W).map sv)) (ownW 9 1 A (u :: W).length k ((u :: W).map sv)) _ from .there (.there (.there (.there .here)))) hw)
    rcases hc with ⟨_, h0, _⟩ | ⟨b, pre, r', rfl, _⟩
    ·simp at h0
    ·refine ((leaves2_ct c p kd num b8 b10 k b pre.length cal x M u W h hI ht).mono fun v L ⟨hv, A', k', hL⟩ => ?_) w hw
     exact ⟨hv, _, _, W, A', k', h.pop hkd hI, fun _ _ => rfl, hL⟩
theorem tick1000_ct (c : Cx) (p kd num : Nat) (cal : Bool) (x : SS) (M : MV) (hx : SOK x) : Ct Tryz.prog 17 #[.pointer (some ⟨p, 0, none⟩), .int .u64 1000] c [portI p kd cal x M num]
 fun v L => v = .tuple #[] ∧ L = [portI p kd cal (x.tick 1000) M num] := tick_ct c p kd num 1000 cal x M hx (by decide)
structure TL where
 i : Nat
 num : Nat
 x : SS
 M : MV
 W : List (List UInt8)
 A : Option Addr
 k : Nat
theorem top_ct (c : Cx) (A : Option Addr) (k : Nat) (l : List Actn) (b1 b2 : Bool) (hA : ActsIn c A l) (hn : l.length ≤ 9223372036854775807) : Ct Tryz.prog 7 #[.slice A l.length k, .bool b1, .bool b2] c [tabA] fun v L => v = .bool true ∧ L = [tabA] := by
 obtain ⟨bk, hbk⟩ : ∃ bk, bkOf b1 = bk := ⟨_, rfl⟩
 obtain ⟨kd, hkd⟩ : ∃ kd : Nat, (if b2 then 2 else 1) = kd := ⟨_, rfl⟩
 have hkd2 : kd = 1 ∨ kd = 2 := by cases b2 <;> simp at hkd <;> omega
 refine ct_fn (args := [.slice A l.length k, .bool b1, .bool b2]) [(0, .slice A l.length k), (1, .bool b1), (2, .bool b2)] Tryz.func7 rfl Tryz.ntmps7 rfl ⟨rfl, rfl, rfl, trivial⟩ ?_
 refine cd_seq ?_
 refine cd_region [0] ?_
 refine op_y (y_assign rfl) rfl ?_
 refine op_nil ?_
 refine ent_then ?_
 refine cd_seq ?_
 refine cd_region [2, 2, 2] ?_
 apply op_c Top3.ca_42 rfl rfl (fun e he_ => some36_ct e)
 ·exact sx
 rintro _ _ ⟨bf, bc, rfl, rfl⟩ G_ hG_
 simp only [zn] at hG_; subst hG_
 refine op_alloc Top3.ze_28 rfl fun b7 => ?_
 apply op_sta Top3.sz_28 rfl rfl rfl rfl
 ·exact rm
 ·simp
 ·(first | ((try simp only [zz, splice, Nat.reduceAdd, Nat.zero_mul, Nat.zero, rlc, fl2c, cfc, pfc, pcs_, Actn.cs, Hdr.cs]) <;> rfl) | rfl)
 refine op_nil ?_
 refine ent_then ?_
 refine cd_seq ?_
 refine cd_seq ?_
 refine cd_region [1, 0, 2] ?_
 apply op_lda Top3.ag_28 rfl rfl
 ·exact rm
 ·(first | ((try simp only [zz, splice, Nat.reduceAdd, Nat.zero_mul, Nat.zero, rlc, fl2c, cfc, pfc, pcs_, Actn.cs, Hdr.cs]) <;> rfl) | rfl)
 ·rfl
 refine op_y (y_move rfl) rfl ?_
 apply op_c Top3.ca_8 rfl rfl (fun e he_ => far_ct e bf bc k A l (hA.mono he_) hn)
 ·exact sx
 rintro _ _ ⟨rfl, rfl⟩ G_ hG_
 simp only [zn] at hG_; subst hG_
 cases hfar : farB l with
 | true =>
  skip
  refine op_nil ?_
  refine ent_then ?_
  refine cd_ift rfl ?_
  refine cd_seq ?_
  refine cd_region [2, 0] ?_
  apply op_c Top3.ca_9 rfl rfl (fun e he_ => lives_ct e)
  ·exact sx
  rintro _ _ ⟨rfl, rfl⟩ G_ hG_
  simp only [zn] at hG_; subst hG_
  refine op_y (y_assign rfl) rfl ?_
  refine op_nil ?_
  refine ent_then ?_
  refine cd_ret ?_
  refine ent_thn_ret ?_
  refine ent_ret1 rfl rfl ⟨_, ⟨rfl, rfl⟩, fun w h => ?_⟩
  apply Sat.only (h := h)
  exact sx
 | false =>
  skip
  refine op_nil ?_
  refine ent_then ?_
  refine cd_iff rfl ?_
  refine cd_skip ?_
  refine ent_then ?_
  refine cd_seq ?_
  refine cd_region [0, 0, 2, 0, 0, 2] ?_
  first | refine op_y (y_fld0 Top3.fo_28_0 rfl) rfl ?_ | refine op_y (y_flda Top3.fo_28_0 rfl) rfl ?_
  first | refine op_y (y_fld0 Top3.fo_25_0 rfl) rfl ?_ | refine op_y (y_flda Top3.fo_25_0 rfl) rfl ?_
  apply op_st1 Top3.sz_3 rfl rfl rfl
  ·exact rm
  ·rfl
  ·(first | ((try simp only [zz, splice, Nat.reduceAdd, Nat.zero_mul, Nat.zero, rlc, fl2c, cfc, pfc, pcs_, Actn.cs, Hdr.cs]) <;> rfl) | rfl)
  first | refine op_y (y_fld0 Top3.fo_28_0 rfl) rfl ?_ | refine op_y (y_flda Top3.fo_28_0 rfl) rfl ?_
  first | refine op_y (y_fld Top3.fo_25_1 rfl) rfl ?_ | refine op_y (y_flda Top3.fo_25_1 rfl) rfl ?_
  apply op_st1 Top3.sz_3 rfl rfl rfl
  ·exact rm
  ·rfl
  ·(first | ((try simp only [zz, splice, Nat.reduceAdd, Nat.zero_mul, Nat.zero, rlc, fl2c, cfc, pfc, pcs_, Actn.cs, Hdr.cs]) <;> rfl) | rfl)
  refine op_nil ?_
  refine ent_then ?_
  refine cd_cut (α := Nat) (fun _ => True) (fun _ => [(0, .slice A l.length k), (2, .bool b2), (6, .bool false), (7, .pointer (some ⟨b7, 0, none⟩))]) (fun _ => [pt b7 28 (pfc 1 bk bf bc), pt bf 197 fl2c, pt bc 153 rlc, tabA]) ?_ ?_
  ·skip
   cases b1 with
   | true =>
    skip
    subst hbk
    refine cd_seq ?_
    refine cd_region [0] ?_
    refine op_y (y_move rfl) rfl ?_
    refine op_nil ?_
    refine ent_then ?_
    refine cd_ift rfl ?_
    refine cd_region [0, 0, 2] ?_
    first | refine op_y (y_fld0 Top3.fo_28_0 rfl) rfl ?_ | refine op_y (y_flda Top3.fo_28_0 rfl) rfl ?_
    first | refine op_y (y_fld Top3.fo_25_1 rfl) rfl ?_ | refine op_y (y_flda Top3.fo_25_1 rfl) rfl ?_
    apply op_st1 Top3.sz_3 rfl rfl rfl
    ·exact rm
    ·rfl
    ·(first | ((try simp only [zz, splice, Nat.reduceAdd, Nat.zero_mul, Nat.zero, rlc, fl2c, cfc, pfc, pcs_, Actn.cs, Hdr.cs]) <;> rfl) | rfl)
    refine op_nil ?_
    refine ent_join 0 trivial ⟨rfl, rfl, rfl, rfl, trivial⟩ fun w h => h
   | false =>
    skip
    subst hbk
    refine cd_seq ?_
    refine cd_region [0] ?_
    refine op_y (y_move rfl) rfl ?_
    refine op_nil ?_
    refine ent_then ?_
    refine cd_iff rfl ?_
    refine cd_skip ?_
    refine ent_join 0 trivial ⟨rfl, rfl, rfl, rfl, trivial⟩ fun w h => h
  ·skip
   rintro - -
   refine cd_cut (α := Nat) (fun _ => True) (fun _ => [(0, .slice A l.length k), (6, .bool false), (7, .pointer (some ⟨b7, 0, none⟩))]) (fun _ => [pt b7 28 (pfc kd bk bf bc), pt bf 197 fl2c, pt bc 153 rlc, tabA]) ?_ ?_
   ·skip
    cases b2 with
    | true =>
     skip
     subst hkd
     refine cd_seq ?_
     refine cd_region [0] ?_
     refine op_y (y_move rfl) rfl ?_
     refine op_nil ?_
     refine ent_then ?_
     refine cd_ift rfl ?_
     refine cd_region [0, 0, 2] ?_
     first | refine op_y (y_fld0 Top3.fo_28_0 rfl) rfl ?_ | refine op_y (y_flda Top3.fo_28_0 rfl) rfl ?_
     first | refine op_y (y_fld0 Top3.fo_25_0 rfl) rfl ?_ | refine op_y (y_flda Top3.fo_25_0 rfl) rfl ?_
     apply op_st1 Top3.sz_3 rfl rfl rfl
     ·exact rm
     ·rfl
     ·(first | ((try simp only [zz, splice, Nat.reduceAdd, Nat.zero_mul, Nat.zero, rlc, fl2c, cfc, pfc, pcs_, Actn.cs, Hdr.cs]) <;> rfl) | rfl)
     refine op_nil ?_
     refine ent_join 0 trivial ⟨rfl, rfl, rfl, trivial⟩ fun w h => h
    | false =>
     skip
     subst hkd
     refine cd_seq ?_
     refine cd_region [0] ?_
     refine op_y (y_move rfl) rfl ?_
     refine op_nil ?_
     refine ent_then ?_
     refine cd_iff rfl ?_
     refine cd_skip ?_
     refine ent_join 0 trivial ⟨rfl, rfl, rfl, trivial⟩ fun w h => h
   ·skip
    rintro - -
    refine cd_seq ?_
    refine cd_region [1, 2, 0, 0, 0, 2, 2, 0] ?_
    apply op_lda Top3.ag_28 rfl rfl
    ·exact rm
    ·(first | ((try simp only [zz, splice, Nat.reduceAdd, Nat.zero_mul, Nat.zero, rlc, fl2c, cfc, pfc, pcs_, Actn.cs, Hdr.cs]) <;> rfl) | rfl)
    ·rfl
    apply op_c Top3.ca_10 rfl rfl (fun e he_ => pNew_ct' e kd bk bf bc b1 hbk hkd2)
    ·exact sx
    rintro _ _ ⟨p, rfl, rfl⟩ G_ hG_
    simp only [zn] at hG_; subst hG_
    refine op_y (y_move rfl) rfl ?_
    first | refine op_y (y_extl rfl rfl) rfl ?_ | refine op_y (y_ext rfl rfl) rfl ?_
    first | refine op_y (y_extl rfl rfl) rfl ?_ | refine op_y (y_ext rfl rfl) rfl ?_
    refine op_alloc Top3.ze_32 rfl fun b8 => ?_
    apply op_st1 Top3.sz_32 rfl rfl rfl
    ·exact rm
    ·rfl
    ·(first | ((try simp only [zz, splice, Nat.reduceAdd, Nat.zero_mul, Nat.zero, rlc, fl2c, cfc, pfc, pcs_, Actn.cs, Hdr.cs]) <;> rfl) | rfl)
    refine op_y (y_assign rfl) rfl ?_
    refine op_nil ?_
    refine ent_then ?_
    refine cd_seq ?_
    refine cd_seq ?_
    refine cd_region [0, 0, 0, 1, 0, 0] ?_
    refine op_y (y_move rfl) rfl ?_
    first | refine op_y (y_ne rfl rfl (neT (by omega))) rfl ?_ | refine op_y (y_ne rfl rfl (neF (by omega))) rfl ?_ | refine op_y (y_ne rfl rfl rfl) rfl ?_
    refine op_y (y_move rfl) rfl ?_
    first
     | refine op_s1 rfl rfl ⟨rfl, rfl⟩ ?_
     | refine op_s2 rfl rfl ⟨rfl, rfl⟩ ?_
     | (refine op_g rfl rfl ?_
        apply op_ld Top3.sc_32 rfl rfl
        ·exact rm
        ·rfl)
    first
     | refine op_s1 rfl rfl ⟨rfl, rfl⟩ ?_
     | refine op_s2 rfl rfl ⟨rfl, rfl⟩ ?_
     | (refine op_g rfl rfl ?_
        first | refine op_y (y_peq (r := false) Top3.un_32 rfl rfl) rfl ?_ | refine op_y (y_peq (r := true) Top3.un_32 rfl rfl) rfl ?_ | refine op_y (y_peq Top3.un_32 rfl rfl) rfl ?_)
    first | refine op_y (y_pickt rfl rfl) rfl ?_ | refine op_y (y_pickf rfl rfl) rfl ?_ | refine op_y (y_pick rfl rfl rfl) rfl ?_
    refine op_nil ?_
    refine ent_then ?_
    refine cd_iff rfl ?_
    refine cd_skip ?_
    refine ent_then ?_
    refine cd_seq ?_
    refine cd_region [2] ?_
    refine op_alloc Top3.ze_68 rfl fun b10 => ?_
    refine op_nil ?_
    refine ent_then ?_
    refine cd_seq ?_
    refine cd_region [0, 0] ?_
    refine op_y (y_mkfs rfl) rfl ?_
    refine op_y (y_assign rfl) rfl ?_
    refine op_nil ?_
    refine ent_then ?_
    refine cd_seq ?_
    refine cd_seq ?_
    refine cd_region [0, 0, 0] ?_
    refine op_y (y_move rfl) rfl ?_
    refine op_y (y_len Top3.un_29 rfl) rfl ?_
    refine op_y (y_move rfl) rfl ?_
    refine op_nil ?_
    refine ent_then ?_
    refine cd_block ?_
    refine cd_loop (α := TL) (fun y => TW kd y.x y.M y.num y.W ∧ y.num ≤ y.i ∧ y.i ≤ l.length) (fun y => l.length - y.i) (fun y => [(6, .bool false), (8, .pointer (some ⟨b8, 0, none⟩)), (10, .pointer (some ⟨b10, 0, none⟩)), (11, .func (.func 43) #[] #[.pointer (some ⟨b8, 0, none⟩), .pointer (some ⟨b10, 0, none⟩)]), (47, .slice A l.length k), (48, .int .i64 l.length), (49, .int .i64 y.i)]) (fun y => [portI p kd b1 y.x y.M y.num, tabA, pt b8 32 [.pointer (some ⟨p, 0, none⟩)], pt b10 68 [.slice y.A y.W.length y.k], ownW 9 1 y.A y.W.length y.k (y.W.map sv)]) ⟨0, 0, ⟨[], 1000, 0, 0, 0⟩, [], [], none, 0⟩ ⟨TW.first kd, Nat.le_refl _, Nat.zero_le _⟩ ⟨rfl, rfl, rfl, rfl, rfl, rfl, rfl, trivial⟩ (fun w h => ?_) ?_
    ·have h2 := ownW_nil (T := 9) (sz := 1) h
     show Sat [portI p kd b1 ⟨[], 1000, 0, 0, 0⟩ [] 0, tabA, pt b8 32 [.pointer (some ⟨p, 0, none⟩)], pt b10 68 [.slice none 0 0], ownW 9 1 none 0 0 []] c w
     apply Sat.only (h := h2)
     exact sx
    rintro ⟨i, num, x, M, W, A1, k1⟩ ⟨hT, hnum, hil⟩
    simp only at hT hnum hil ⊢
    have hW9 : W.length ≤ 9 := by rw [← hT.wl]; exact hT.ok.len
    by_cases hi : i < l.length
    ·obtain ⟨a, ha⟩ : ∃ a, l[i]? = some a := ⟨_, List.getElem?_eq_getElem (by omega)⟩
     obtain ⟨hok, p0, rfl, _⟩ := hA i a ha
     have hfs : farS 0 l = false ∧ l.length ≤ 120 := by
      unfold farB at hfar
      simp at hfar
      exact ⟨hfar.1, by omega⟩
     have hb := farS_body hfs.1 a (List.mem_of_getElem? ha)
     have hl7 := bytesF_len a hb
     have hl120 := hfs.2
     obtain ⟨q, hq⟩ : ∃ q, q = a.kind % 8 := ⟨_, rfl⟩
     have hqi : ((a.kind : Int) % 8) = (q : Int) := by omega
     obtain ⟨d, hd⟩ : ∃ d, d = decide (q < 4) := ⟨_, rfl⟩
     skip
     refine cd_seq ?_
     refine cd_region [0] ?_
     first | refine op_y (y_lt rfl rfl (decide_eq_true (by omega))) rfl ?_ | refine op_y (y_lt rfl rfl (decide_eq_false (by omega))) rfl ?_ | refine op_y (y_lt rfl rfl rfl) rfl ?_
     refine op_nil ?_
     refine ent_then ?_
     refine cd_seq ?_
     refine cd_ift rfl ?_
     refine cd_skip ?_
     refine ent_then ?_
     refine cd_seq ?_
     refine cd_block ?_
     refine cd_seq ?_
     refine cd_region [0, 1, 2, 2] ?_
     first | refine op_y (y_ix0 (j := i) Top3.sl_29 rfl rfl (by omega) (by omega)) rfl ?_ | refine op_y (y_ix (j := i) Top3.sl_29 rfl rfl (by omega) (by omega)) rfl ?_ | refine op_y (y_ixa (j := i) Top3.sl_29 rfl rfl (by omega) (by omega)) rfl ?_
     refine op_ldpa Top3.ag_46 rfl rfl (hA.rds ha) rfl ?_
     refine op_alloc Top3.ze_46 rfl fun b13 => ?_
     apply op_sta Top3.sz_46 rfl rfl rfl rfl
     ·exact rm
     ·simp
     ·(first | ((try simp only [zz, splice, Nat.reduceAdd, Nat.zero_mul, Nat.zero, rlc, fl2c, cfc, pfc, pcs_, Actn.cs, Hdr.cs]) <;> rfl) | rfl)
     refine op_nil ?_
     refine ent_then ?_
     refine cd_seq ?_
     refine cd_region [0, 1, 0] ?_
     first | refine op_y (y_fld0 Top3.fo_46_0 rfl) rfl ?_ | refine op_y (y_flda Top3.fo_46_0 rfl) rfl ?_
     apply op_ld Top3.sc_5 rfl rfl
     ·exact rm
     ·rfl
     first | refine op_y (y_remn rfl rfl (by omega) (by omega)) rfl ?_ | refine op_y (y_rem rfl rfl (by omega) rfl) rfl ?_
     refine op_nil ?_
     refine ent_then ?_
     rw [hqi]
     refine cd_block ?_
     refine cd_cut (α := Nat) (fun _ => True) (fun _ => [(6, .bool false), (8, .pointer (some ⟨b8, 0, none⟩)), (10, .pointer (some ⟨b10, 0, none⟩)), (11, .func (.func 43) #[] #[.pointer (some ⟨b8, 0, none⟩), .pointer (some ⟨b10, 0, none⟩)]), (13, .pointer (some ⟨b13, 0, none⟩)), (47, .slice (some p0) l.length k), (48, .int .i64 l.length), (49, .int .i64 i), (55, .int .u8 q), (59, .bool d)]) (fun _ => [pt b13 46 (Actn.cs a), portI p kd b1 x M num, tabA, pt b8 32 [.pointer (some ⟨p, 0, none⟩)], pt b10 68 [.slice A1 W.length k1], ownW 9 1 A1 W.length k1 (W.map sv)]) ?_ ?_
     ·skip
      by_cases h0 : q = 0
      ·obtain rfl : d = true := by rw [hd]; exact decide_eq_true (by omega)
       skip
       refine cd_seq ?_
       refine cd_region [0, 0] ?_
       first | refine op_y (y_eq rfl rfl (eqT (by omega))) rfl ?_ | refine op_y (y_eq rfl rfl (eqF (by omega))) rfl ?_ | refine op_y (y_eq rfl rfl rfl) rfl ?_
       refine op_y (y_assign rfl) rfl ?_
       refine op_nil ?_
       refine ent_then ?_
       refine cd_ift rfl ?_
       refine cd_skip ?_
       refine ent_join 0 trivial ⟨rfl, rfl, rfl, rfl, rfl, rfl, rfl, rfl, rfl, rfl, trivial⟩ fun w h => h
      ·by_cases h1 : q = 1
       ·obtain rfl : d = true := by rw [hd]; exact decide_eq_true (by omega)
        skip
        refine cd_seq ?_
        refine cd_region [0, 0] ?_
        first | refine op_y (y_eq rfl rfl (eqT (by omega))) rfl ?_ | refine op_y (y_eq rfl rfl (eqF (by omega))) rfl ?_ | refine op_y (y_eq rfl rfl rfl) rfl ?_
        refine op_y (y_assign rfl) rfl ?_
        refine op_nil ?_
        refine ent_then ?_
        refine cd_iff rfl ?_
        refine cd_seq ?_
        refine cd_region [0, 0] ?_
        first | refine op_y (y_eq rfl rfl (eqT (by omega))) rfl ?_ | refine op_y (y_eq rfl rfl (eqF (by omega))) rfl ?_ | refine op_y (y_eq rfl rfl rfl) rfl ?_
        refine op_y (y_assign rfl) rfl ?_
        refine op_nil ?_
        refine ent_then ?_
        refine cd_ift rfl ?_
        refine cd_skip ?_
        refine ent_join 0 trivial ⟨rfl, rfl, rfl, rfl, rfl, rfl, rfl, rfl, rfl, rfl, trivial⟩ fun w h => h
       ·by_cases h2 : q = 2
        ·obtain rfl : d = true := by rw [hd]; exact decide_eq_true (by omega)
         skip
         refine cd_seq ?_
         refine cd_region [0, 0] ?_
         first | refine op_y (y_eq rfl rfl (eqT (by omega))) rfl ?_ | refine op_y (y_eq rfl rfl (eqF (by omega))) rfl ?_ | refine op_y (y_eq rfl rfl rfl) rfl ?_
         refine op_y (y_assign rfl) rfl ?_
         refine op_nil ?_
         refine ent_then ?_
         refine cd_iff rfl ?_
         refine cd_seq ?_
         refine cd_region [0, 0] ?_
         first | refine op_y (y_eq rfl rfl (eqT (by omega))) rfl ?_ | refine op_y (y_eq rfl rfl (eqF (by omega))) rfl ?_ | refine op_y (y_eq rfl rfl rfl) rfl ?_
         refine op_y (y_assign rfl) rfl ?_
         refine op_nil ?_
         refine ent_then ?_
         refine cd_iff rfl ?_
         refine cd_seq ?_
         refine cd_region [0, 0] ?_
         first | refine op_y (y_eq rfl rfl (eqT (by omega))) rfl ?_ | refine op_y (y_eq rfl rfl (eqF (by omega))) rfl ?_ | refine op_y (y_eq rfl rfl rfl) rfl ?_
         refine op_y (y_assign rfl) rfl ?_
         refine op_nil ?_
         refine ent_then ?_
         refine cd_ift rfl ?_
         refine cd_skip ?_
         refine ent_join 0 trivial ⟨rfl, rfl, rfl, rfl, rfl, rfl, rfl, rfl, rfl, rfl, trivial⟩ fun w h => h
        ·by_cases h3 : q = 3
         ·obtain rfl : d = true := by rw [hd]; exact decide_eq_true (by omega)
          skip
          refine cd_seq ?_
          refine cd_region [0, 0] ?_
          first | refine op_y (y_eq rfl rfl (eqT (by omega))) rfl ?_ | refine op_y (y_eq rfl rfl (eqF (by omega))) rfl ?_ | refine op_y (y_eq rfl rfl rfl) rfl ?_
          refine op_y (y_assign rfl) rfl ?_
          refine op_nil ?_
          refine ent_then ?_
          refine cd_iff rfl ?_
          refine cd_seq ?_
          refine cd_region [0, 0] ?_
          first | refine op_y (y_eq rfl rfl (eqT (by omega))) rfl ?_ | refine op_y (y_eq rfl rfl (eqF (by omega))) rfl ?_ | refine op_y (y_eq rfl rfl rfl) rfl ?_
          refine op_y (y_assign rfl) rfl ?_
          refine op_nil ?_
          refine ent_then ?_
          refine cd_iff rfl ?_
          refine cd_seq ?_
          refine cd_region [0, 0] ?_
          first | refine op_y (y_eq rfl rfl (eqT (by omega))) rfl ?_ | refine op_y (y_eq rfl rfl (eqF (by omega))) rfl ?_ | refine op_y (y_eq rfl rfl rfl) rfl ?_
          refine op_y (y_assign rfl) rfl ?_
          refine op_nil ?_
          refine ent_then ?_
          refine cd_iff rfl ?_
          refine cd_region [0, 0] ?_
          first | refine op_y (y_eq rfl rfl (eqT (by omega))) rfl ?_ | refine op_y (y_eq rfl rfl (eqF (by omega))) rfl ?_ | refine op_y (y_eq rfl rfl rfl) rfl ?_
          refine op_y (y_assign rfl) rfl ?_
          refine op_nil ?_
          refine ent_join 0 trivial ⟨rfl, rfl, rfl, rfl, rfl, rfl, rfl, rfl, rfl, rfl, trivial⟩ fun w h => h
         ·obtain rfl : d = false := by rw [hd]; exact decide_eq_false (by omega)
          skip
          refine cd_seq ?_
          refine cd_region [0, 0] ?_
          first | refine op_y (y_eq rfl rfl (eqT (by omega))) rfl ?_ | refine op_y (y_eq rfl rfl (eqF (by omega))) rfl ?_ | refine op_y (y_eq rfl rfl rfl) rfl ?_
          refine op_y (y_assign rfl) rfl ?_
          refine op_nil ?_
          refine ent_then ?_
          refine cd_iff rfl ?_
          refine cd_seq ?_
          refine cd_region [0, 0] ?_
          first | refine op_y (y_eq rfl rfl (eqT (by omega))) rfl ?_ | refine op_y (y_eq rfl rfl (eqF (by omega))) rfl ?_ | refine op_y (y_eq rfl rfl rfl) rfl ?_
          refine op_y (y_assign rfl) rfl ?_
          refine op_nil ?_
          refine ent_then ?_
          refine cd_iff rfl ?_
          refine cd_seq ?_
          refine cd_region [0, 0] ?_
          first | refine op_y (y_eq rfl rfl (eqT (by omega))) rfl ?_ | refine op_y (y_eq rfl rfl (eqF (by omega))) rfl ?_ | refine op_y (y_eq rfl rfl rfl) rfl ?_
          refine op_y (y_assign rfl) rfl ?_
          refine op_nil ?_
          refine ent_then ?_
          refine cd_iff rfl ?_
          refine cd_region [0, 0] ?_
          first | refine op_y (y_eq rfl rfl (eqT (by omega))) rfl ?_ | refine op_y (y_eq rfl rfl (eqF (by omega))) rfl ?_ | refine op_y (y_eq rfl rfl rfl) rfl ?_
          refine op_y (y_assign rfl) rfl ?_
          refine op_nil ?_
          refine ent_join 0 trivial ⟨rfl, rfl, rfl, rfl, rfl, rfl, rfl, rfl, rfl, rfl, trivial⟩ fun w h => h
     ·skip
      rintro - -
      cases d with
      | true =>
       skip
       refine cd_ift rfl ?_
       refine cd_seq ?_
       refine cd_region [1, 2, 0] ?_
       apply op_lda Top3.ag_46 rfl rfl
       ·exact rm
       ·(first | ((try simp only [zz, splice, Nat.reduceAdd, Nat.zero_mul, Nat.zero, rlc, fl2c, cfc, pfc, pcs_, Actn.cs, Hdr.cs]) <;> rfl) | rfl)
       ·rfl
       apply op_c Top3.ca_15 rfl rfl (fun e he_ => bytes_ct e a hok hb)
       ·exact sx
       rintro _ _ ⟨rfl, rfl⟩ G_ hG_
       simp only [zn] at hG_; subst hG_
       refine op_y (y_assign rfl) rfl ?_
       refine op_nil ?_
       refine ent_then ?_
       refine cd_seq ?_
       refine cd_region [0, 2, 0, 0, 0, 0, 0] ?_
       refine op_y (y_move rfl) rfl ?_
       apply op_c Top3.ca_44 rfl rfl (fun e he_ => hop_ct e (bytesF a) hl7)
       ·exact sx
       rintro _ _ ⟨rfl, rfl⟩ G_ hG_
       simp only [zn] at hG_; subst hG_
       refine op_y (y_move rfl) rfl ?_
       first | refine op_y (y_extl rfl rfl) rfl ?_ | refine op_y (y_ext rfl rfl) rfl ?_
       first | refine op_y (y_extl rfl rfl) rfl ?_ | refine op_y (y_ext rfl rfl) rfl ?_
       refine op_y (y_assign rfl) rfl ?_
       refine op_y (y_assign rfl) rfl ?_
       refine op_nil ?_
       refine ent_then ?_
       refine cd_seq ?_
       refine cd_region [1, 0, 2, 0, 0, 0, 0, 0] ?_
       apply op_ld Top3.sc_32 rfl rfl
       ·exact rm
       ·rfl
       refine op_y (y_move rfl) rfl ?_
       apply op_c Top3.ca_14 rfl rfl (fun e he_ => arrive_ct e p kd num b1 x M (bytesF a) hT.ok hkd2 hl7 (by omega))
       ·exact sx
       rintro v L (⟨h1, rfl, rfl⟩ | ⟨h1, rfl, rfl⟩) G_ hG_
       ·simp only [zn] at hG_; subst hG_
        obtain ⟨E, hE⟩ : ∃ E, E = arrE x (bytesF a) := ⟨_, rfl⟩
        rw [← hE] at h1 ⊢
        skip
        refine op_y (y_move rfl) rfl ?_
        first | refine op_y (y_extl rfl rfl) rfl ?_ | refine op_y (y_ext rfl rfl) rfl ?_
        first | refine op_y (y_extl rfl rfl) rfl ?_ | refine op_y (y_ext rfl rfl) rfl ?_
        refine op_y (y_assign rfl) rfl ?_
        refine op_y (y_assign rfl) rfl ?_
        refine op_nil ?_
        refine ent_then ?_
        refine cd_seq ?_
        refine cd_region [0, 0] ?_
        refine op_y (y_move rfl) rfl ?_
        first | refine op_y (y_eq rfl rfl (eqT (by omega))) rfl ?_ | refine op_y (y_eq rfl rfl (eqF (by omega))) rfl ?_ | refine op_y (y_eq rfl rfl rfl) rfl ?_
        refine op_nil ?_
        refine ent_then ?_
        refine cd_iff rfl ?_
        refine cd_skip ?_
        refine ent_block ?_
        refine ent_block ?_
        refine ent_then ?_
        refine cd_region [0, 0] ?_
        first | refine op_y (y_add rfl rfl (wi64 (by omega) (by omega))) rfl ?_ | refine op_y (y_add rfl rfl rfl) rfl ?_
        refine op_y (y_move rfl) rfl ?_
        refine op_nil ?_
        refine ent_back ⟨i + 1, num, x, M, W, A1, k1⟩ ⟨hT, by simp only []; omega, by simp only []; omega⟩ (by simp only []; omega) ⟨rfl, rfl, rfl, rfl, rfl, rfl, rfl, trivial⟩ (fun w h => ?_)
        apply Sat.only (h := h)
        exact sx
       ·simp only [zn] at hG_; subst hG_
        skip
        have hE : takeE (bytesF a) = 0 ∧ hopE (bytesF a) = 0 ∧ x.why (bytesF a).length = 0 := by
         unfold arrE at h1
         split at h1
         ·contradiction
         ·split at h1
          ·contradiction
          ·rename_i q1 q2
           exact ⟨by simpa using q1, by simpa using q2, h1⟩
        refine op_y (y_move rfl) rfl ?_
        first | refine op_y (y_extl rfl rfl) rfl ?_ | refine op_y (y_ext rfl rfl) rfl ?_
        first | refine op_y (y_extl rfl rfl) rfl ?_ | refine op_y (y_ext rfl rfl) rfl ?_
        refine op_y (y_assign rfl) rfl ?_
        refine op_y (y_assign rfl) rfl ?_
        refine op_nil ?_
        refine ent_then ?_
        refine cd_seq ?_
        refine cd_region [0, 0] ?_
        refine op_y (y_move rfl) rfl ?_
        first | refine op_y (y_eq rfl rfl (eqT (by omega))) rfl ?_ | refine op_y (y_eq rfl rfl (eqF (by omega))) rfl ?_ | refine op_y (y_eq rfl rfl rfl) rfl ?_
        refine op_nil ?_
        refine ent_then ?_
        refine cd_ift rfl ?_
        refine cd_region [1, 0, 2, 2, 2] ?_
        apply op_ld Top3.sc_68 rfl rfl
        ·exact rm
        ·rfl
        refine op_y (y_move rfl) rfl ?_
        apply op_bslice Top3.sl_68 Top3.ze_9 rfl rfl rfl rfl rfl
        ·(first | ((try simp [fillL, splice, Value.cells, Nat.zero, rlc, fl2c, cfc, pfc, pcs_, Actn.cs, Hdr.cs]) <;> rfl) | rfl)
        intro b81
        refine op_appendW (e := 9) (sz := 1) (by_ := 16) (z := [sv []]) (news := [sv (hopF (bytesF a))]) (by kernel_rfl) (by kernel_rfl) rfl rfl rfl (by decide) rfl (by exact rm) (rds_all (by exact rm)) rfl rfl (by decide) (by omega) (by omega) (fun A2 k2 => ?_)
        apply op_st1 Top3.sz_68 rfl rfl rfl
        ·exact rm
        ·rfl
        ·(first | ((try simp only [zz, splice, Nat.reduceAdd, Nat.zero_mul, Nat.zero, rlc, fl2c, cfc, pfc, pcs_, Actn.cs, Hdr.cs]) <;> rfl) | rfl)
        refine op_nil ?_
        refine ent_block ?_
        refine ent_block ?_
        refine ent_then ?_
        refine cd_region [0, 0] ?_
        first | refine op_y (y_add rfl rfl (wi64 (by omega) (by omega))) rfl ?_ | refine op_y (y_add rfl rfl rfl) rfl ?_
        refine op_y (y_move rfl) rfl ?_
        refine op_nil ?_
        refine ent_back ⟨i + 1, num + 1, x.push kd (num + 1) (bytesF a).length, MPut ((num + 1 : Nat) : Int) (sv (hopF (bytesF a))) M, W ++ [hopF (bytesF a)], A2, k2⟩ ⟨hT.push hkd2 _ hE.2.2, by simp only []; omega, by simp only []; omega⟩ (by simp only []; omega) ⟨rfl, rfl, rfl, rfl, rfl, rfl, rfl, trivial⟩ (fun w h => ?_)
        simp only [List.length_append, List.map_append, List.map_cons, List.map_nil, List.length_cons, List.length_nil, Nat.zero_add]
        apply Sat.only (h := h)
        exact sx
      | false =>
       skip
       refine cd_iff rfl ?_
       by_cases h7 : q = 7
       ·skip
        refine cd_seq ?_
        refine cd_region [0, 0] ?_
        first | refine op_y (y_eq rfl rfl (eqT (by omega))) rfl ?_ | refine op_y (y_eq rfl rfl (eqF (by omega))) rfl ?_ | refine op_y (y_eq rfl rfl rfl) rfl ?_
        refine op_y (y_assign rfl) rfl ?_
        refine op_nil ?_
        refine ent_then ?_
        refine cd_ift rfl ?_
        refine cd_region [1, 0, 1, 2] ?_
        apply op_ld Top3.sc_32 rfl rfl
        ·exact rm
        ·rfl
        first | refine op_y (y_fld Top3.fo_46_3 rfl) rfl ?_ | refine op_y (y_flda Top3.fo_46_3 rfl) rfl ?_
        apply op_ld Top3.sc_22 rfl rfl
        ·exact rm
        ·rfl
        apply op_c Top3.ca_17 rfl rfl (fun e he_ => tick_ct e p kd num a.t b1 x M hT.ok hok.t)
        ·exact sx
        rintro _ _ ⟨rfl, rfl⟩ G_ hG_
        simp only [zn] at hG_; subst hG_
        refine op_nil ?_
        refine ent_block ?_
        refine ent_block ?_
        refine ent_then ?_
        refine cd_region [0, 0] ?_
        first | refine op_y (y_add rfl rfl (wi64 (by omega) (by omega))) rfl ?_ | refine op_y (y_add rfl rfl rfl) rfl ?_
        refine op_y (y_move rfl) rfl ?_
        refine op_nil ?_
        refine ent_back ⟨i + 1, num, x.tick a.t, M, W, A1, k1⟩ ⟨hT.tick a.t, by simp only []; omega, by simp only []; omega⟩ (by simp only []; omega) ⟨rfl, rfl, rfl, rfl, rfl, rfl, rfl, trivial⟩ (fun w h => ?_)
        apply Sat.only (h := h)
        exact sx
       ·skip
        refine cd_seq ?_
        refine cd_region [0, 0] ?_
        first | refine op_y (y_eq rfl rfl (eqT (by omega))) rfl ?_ | refine op_y (y_eq rfl rfl (eqF (by omega))) rfl ?_ | refine op_y (y_eq rfl rfl rfl) rfl ?_
        refine op_y (y_assign rfl) rfl ?_
        refine op_nil ?_
        refine ent_then ?_
        refine cd_iff rfl ?_
        refine cd_seq ?_
        refine cd_region [0, 2, 0] ?_
        refine op_y (y_move rfl) rfl ?_
        apply op_cv (f := 43) (vs := []) (cap := [_, _]) Top3.ca_43 rfl rfl rfl rfl (fun e he_ => leaves_ct e p kd num b8 b10 k1 b1 x M A1 W hT hkd2)
        ·exact sx
        rintro _ _ ⟨rfl, x2, M2, W2, A2, k2, hT2, _, rfl⟩ G_ hG_
        simp only [zn] at hG_; subst hG_
        first | refine op_y (y_not (b := true) (r := false) rfl rfl) rfl ?_ | refine op_y (y_not (b := false) (r := true) rfl rfl) rfl ?_ | refine op_y (y_not rfl rfl) rfl ?_
        refine op_nil ?_
        refine ent_then ?_
        refine cd_iff rfl ?_
        refine cd_skip ?_
        refine ent_block ?_
        refine ent_block ?_
        refine ent_then ?_
        refine cd_region [0, 0] ?_
        first | refine op_y (y_add rfl rfl (wi64 (by omega) (by omega))) rfl ?_ | refine op_y (y_add rfl rfl rfl) rfl ?_
        refine op_y (y_move rfl) rfl ?_
        refine op_nil ?_
        refine ent_back ⟨i + 1, num, x2, M2, W2, A2, k2⟩ ⟨hT2, by simp only []; omega, by simp only []; omega⟩ (by simp only []; omega) ⟨rfl, rfl, rfl, rfl, rfl, rfl, rfl, trivial⟩ (fun w h => ?_)
        apply Sat.only (h := h)
        exact sx
    ·skip
     refine cd_seq ?_
     refine cd_region [0] ?_
     first | refine op_y (y_lt rfl rfl (decide_eq_true (by omega))) rfl ?_ | refine op_y (y_lt rfl rfl (decide_eq_false (by omega))) rfl ?_ | refine op_y (y_lt rfl rfl rfl) rfl ?_
     refine op_nil ?_
     refine ent_then ?_
     refine cd_seq ?_
     refine cd_iff rfl ?_
     refine cd_exit ?_
     refine ent_thn_exit ?_
     refine ent_then_exit ?_
     refine ent_block_exit ?_
     refine ent_then ?_
     refine cd_seq ?_
     refine cd_seq ?_
     refine cd_region [1, 0, 0] ?_
     apply op_ld Top3.sc_68 rfl rfl
     ·exact rm
     ·rfl
     refine op_y (y_len Top3.un_68 rfl) rfl ?_
     refine op_y (y_assign rfl) rfl ?_
     refine op_nil ?_
     refine ent_then ?_
     refine cd_block ?_
     refine cd_loop (α := TL) (fun y => TW kd y.x y.M y.num y.W) (fun y => y.W.length) (fun y => [(6, .bool false), (8, .pointer (some ⟨b8, 0, none⟩)), (10, .pointer (some ⟨b10, 0, none⟩)), (11, .func (.func 43) #[] #[.pointer (some ⟨b8, 0, none⟩), .pointer (some ⟨b10, 0, none⟩)]), (19, .int .i64 y.W.length)]) (fun y => [portI p kd b1 y.x y.M y.num, tabA, pt b8 32 [.pointer (some ⟨p, 0, none⟩)], pt b10 68 [.slice y.A y.W.length y.k], ownW 9 1 y.A y.W.length y.k (y.W.map sv)]) ⟨i, num, x, M, W, A1, k1⟩ hT ⟨rfl, rfl, rfl, rfl, rfl, trivial⟩ (fun w h => ?_) ?_
     ·apply Sat.only (h := h)
      exact sx
     rintro ⟨i2, num2, x2, M2, W2, A2, k2⟩ hT2
     simp only at hT2 ⊢
     have hW29 : W2.length ≤ 9 := by rw [← hT2.wl]; exact hT2.ok.len
     by_cases hw0 : W2.length = 0
     ·skip
      refine cd_seq ?_
      refine cd_seq ?_
      refine cd_region [0, 0] ?_
      refine op_y (y_move rfl) rfl ?_
      first | refine op_y (y_gt rfl rfl (decide_eq_true (by omega))) rfl ?_ | refine op_y (y_gt rfl rfl (decide_eq_false (by omega))) rfl ?_ | refine op_y (y_gt rfl rfl rfl) rfl ?_
      refine op_nil ?_
      refine ent_then ?_
      refine cd_iff rfl ?_
      refine cd_exit ?_
      refine ent_thn_exit ?_
      refine ent_then_exit ?_
      refine ent_block_exit ?_
      refine ent_then ?_
      refine cd_seq ?_
      refine cd_region [2, 0] ?_
      apply op_c Top3.ca_9 rfl rfl (fun e he_ => lives_ct e)
      ·exact sx
      rintro _ _ ⟨rfl, rfl⟩ G_ hG_
      simp only [zn] at hG_; subst hG_
      refine op_y (y_assign rfl) rfl ?_
      refine op_nil ?_
      refine ent_then ?_
      refine cd_ret ?_
      refine ent_ret1 rfl rfl ⟨_, ⟨rfl, rfl⟩, fun w h => ?_⟩
      apply Sat.only (h := h)
      exact sx
     ·skip
      refine cd_seq ?_
      refine cd_seq ?_
      refine cd_region [0, 0] ?_
      refine op_y (y_move rfl) rfl ?_
      first | refine op_y (y_gt rfl rfl (decide_eq_true (by omega))) rfl ?_ | refine op_y (y_gt rfl rfl (decide_eq_false (by omega))) rfl ?_ | refine op_y (y_gt rfl rfl rfl) rfl ?_
      refine op_nil ?_
      refine ent_then ?_
      refine cd_ift rfl ?_
      refine cd_skip ?_
      refine ent_then ?_
      refine cd_seq ?_
      refine cd_block ?_
      refine cd_seq ?_
      refine cd_region [1, 2] ?_
      apply op_ld Top3.sc_32 rfl rfl
      ·exact rm
      ·rfl
      apply op_c Top3.ca_17 rfl rfl (fun e he_ => tick1000_ct e p kd num2 b1 x2 M2 hT2.ok)
      ·exact sx
      rintro _ _ ⟨rfl, rfl⟩ G_ hG_
      simp only [zn] at hG_; subst hG_
      refine op_nil ?_
      refine ent_then ?_
      refine cd_seq ?_
      refine cd_region [0, 2, 0, 0, 1, 0, 0, 0, 0, 0] ?_
      refine op_y (y_move rfl) rfl ?_
      apply op_cv (f := 43) (vs := []) (cap := [_, _]) Top3.ca_43 rfl rfl rfl rfl (fun e he_ => leaves_ct e p kd num2 b8 b10 k2 b1 (x2.tick 1000) M2 A2 W2 (hT2.tick 1000) hkd2)
      ·exact sx
      rintro _ _ ⟨rfl, x3, M3, W3, A3, k3, hT3, hlen, rfl⟩ G_ hG_
      simp only [zn] at hG_; subst hG_
      have hl3 := hlen (tick_tok x2) (by intro e0; rw [e0] at hw0; exact hw0 rfl)
      first | refine op_y (y_not (b := true) (r := false) rfl rfl) rfl ?_ | refine op_y (y_not (b := false) (r := true) rfl rfl) rfl ?_ | refine op_y (y_not rfl rfl) rfl ?_
      refine op_y (y_move rfl) rfl ?_
      first
       | refine op_s1 rfl rfl ⟨rfl, rfl⟩ ?_
       | refine op_s2 rfl rfl ⟨rfl, rfl⟩ ?_
       | (refine op_g rfl rfl ?_
          apply op_ld Top3.sc_68 rfl rfl
          ·exact rm
          ·rfl)
      first
       | refine op_s1 rfl rfl ⟨rfl, rfl⟩ ?_
       | refine op_s2 rfl rfl ⟨rfl, rfl⟩ ?_
       | (refine op_g rfl rfl ?_
          refine op_y (y_len Top3.un_68 rfl) rfl ?_)
      first
       | refine op_s1 rfl rfl ⟨rfl, rfl⟩ ?_
       | refine op_s2 rfl rfl ⟨rfl, rfl⟩ ?_
       | (refine op_g rfl rfl ?_
          refine op_y (y_move rfl) rfl ?_)
      first
       | refine op_s1 rfl rfl ⟨rfl, rfl⟩ ?_
       | refine op_s2 rfl rfl ⟨rfl, rfl⟩ ?_
       | (refine op_g rfl rfl ?_
          first | refine op_y (y_sub rfl rfl (wi64 (by omega) (by omega))) rfl ?_ | refine op_y (y_sub rfl rfl rfl) rfl ?_)
      first
       | refine op_s1 rfl rfl ⟨rfl, rfl⟩ ?_
       | refine op_s2 rfl rfl ⟨rfl, rfl⟩ ?_
       | (refine op_g rfl rfl ?_
          first | refine op_y (y_ne rfl rfl (neT (by omega))) rfl ?_ | refine op_y (y_ne rfl rfl (neF (by omega))) rfl ?_ | refine op_y (y_ne rfl rfl rfl) rfl ?_)
      first | refine op_y (y_pickt rfl rfl) rfl ?_ | refine op_y (y_pickf rfl rfl) rfl ?_ | refine op_y (y_pick rfl rfl rfl) rfl ?_
      refine op_nil ?_
      refine ent_then ?_
      refine cd_iff rfl ?_
      refine cd_skip ?_
      refine ent_block ?_
      refine ent_then ?_
      refine cd_region [0, 0, 0] ?_
      refine op_y (y_move rfl) rfl ?_
      first | refine op_y (y_sub rfl rfl (wi64 (by omega) (by omega))) rfl ?_ | refine op_y (y_sub rfl rfl rfl) rfl ?_
      refine op_y (y_assign rfl) rfl ?_
      refine op_nil ?_
      have e3 : ((W2.length : Nat) : Int) - 1 = ((W3.length : Nat) : Int) := by omega
      rw [e3]
      refine ent_back ⟨i2, num2, x3, M3, W3, A3, k3⟩ hT3 (by simp only []; omega) ⟨rfl, rfl, rfl, rfl, rfl, trivial⟩ (fun w h => ?_)
      apply Sat.only (h := h)
      exact sx
end Go.Proofs.YtfkadaodnaaceaaGreatDoor
