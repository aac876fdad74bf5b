/- TopLine answers true at every input, and its arguments read as they did: part 3; conditions: the row's own. -/
import Derived.Test.YtfkadaodnaaceaaGreatDoorM2
set_option linter.all false
set_option linter.unusedVariables false
set_option linter.unusedSimpArgs false
/- The calendar as a list of items in order: how many, and what is let in. -/
namespace Go.Proofs.YtfkadaodnaaceaaGreatDoor
open Go Go.SL
theorem Calq4.ag_62 : aggK Tryz.prog 62 = some 3 := by kernel_rfl
theorem Calq4.ca_269 : callable Tryz.prog 269 = true := by kernel_rfl
theorem Calq4.ca_274 : callable Tryz.prog 274 = true := by kernel_rfl
theorem Calq4.ca_280 : callable Tryz.prog 280 = true := by kernel_rfl
theorem Calq4.ca_288 : callable Tryz.prog 288 = true := by kernel_rfl
theorem Calq4.ca_289 : callable Tryz.prog 289 = true := by kernel_rfl
theorem Calq4.ca_290 : callable Tryz.prog 290 = true := by kernel_rfl
theorem Calq4.ca_291 : callable Tryz.prog 291 = true := by kernel_rfl
theorem Calq4.ca_292 : callable Tryz.prog 292 = true := by kernel_rfl
theorem Calq4.fo_361_1 : fieldOff Tryz.prog 361 1 = some 1 := by kernel_rfl
theorem Calq4.fo_361_3 : fieldOff Tryz.prog 361 3 = some 3 := by kernel_rfl
theorem Calq4.fo_361_4 : fieldOff Tryz.prog 361 4 = some 4 := by kernel_rfl
theorem Calq4.sc_284 : scalarT Tryz.prog 284 = true := by kernel_rfl
theorem Calq4.sc_357 : scalarT Tryz.prog 357 = true := by kernel_rfl
theorem Calq4.sz_62 : sizeK Tryz.prog 62 = some 3 := by kernel_rfl
theorem Calq4.un_289 : Tryz.prog.underlying 289 = some (.pointer 361) := by kernel_rfl
theorem Calq4.ze_62 : zeroC Tryz.prog 62 = some [.int .u32 0, .int .u32 0, .int .u64 0] := by kernel_rfl
set_option maxRecDepth 100000
set_option maxHeartbeats 400000
theorem cLen_ct (c : Cx) (p pd pp pb pa room base k : Nat) (m : PM) (B A : List It) (n : Nat) (hn : n = m.n + B.length + A.length) (hr : n ≤ 10000) :
 Ct Tryz.prog 280 #[.pointer (some ⟨p, 0, none⟩)] c [pt p 361 (cq pd pp pb pa room base), poolC pp room m, heapI pb B room k, heapI pa A room k]
  fun v L => v = .int .i64 n ∧ L = [pt p 361 (cq pd pp pb pa room base), poolC pp room m, heapI pb B room k, heapI pa A room k] := by
 refine ct_fn (args := [.pointer (some ⟨p, 0, none⟩)]) [(0, .pointer (some ⟨p, 0, none⟩))] Tryz.func280 rfl Tryz.ntmps280 rfl ⟨rfl, trivial⟩ ?_
 refine cd_seq ?_
 refine cd_region [0] ?_
 refine op_y (y_assign rfl) rfl ?_
 refine op_nil ?_
 refine ent_then ?_
 refine cd_seq ?_
 refine cd_seq ?_
 refine cd_region [0, 0] ?_
 refine op_y (y_move rfl) rfl ?_
 first | refine op_y (y_peq (r := false) Calq4.un_289 rfl rfl) rfl ?_ | refine op_y (y_peq (r := true) Calq4.un_289 rfl rfl) rfl ?_ | refine op_y (y_peq Calq4.un_289 rfl rfl) rfl ?_
 refine op_nil ?_
 refine ent_then ?_
 refine cd_iff rfl ?_
 refine cd_skip ?_
 refine ent_then ?_
 refine cd_seq ?_
 refine cd_drawL [0, 1, 2, 3, 5, 6, 7, 8, 11, 12, 13, 14, 4, 9, 10, 15, 16, 17] [0, 0, 0, 1, 0, 0, 0, 3, 0, 0, 0, 3, 4, 4, 0, 2, 0, 0] mixed_ (by kernel_rfl) ?_
 refine op_y (y_move rfl) rfl ?_
 first | refine op_y (y_nil rfl) rfl ?_ | refine op_y (y_nili rfl) rfl ?_ | refine op_y (y_nilf rfl) rfl ?_
 first | refine op_y (y_fld Calq4.fo_361_1 rfl) rfl ?_ | refine op_y (y_flda Calq4.fo_361_1 rfl) rfl ?_
 apply op_ld Calq4.sc_357 rfl rfl
 ·exact rm
 ·rfl
 refine op_y (y_move rfl) rfl ?_
 first | refine op_y (y_nil rfl) rfl ?_ | refine op_y (y_nili rfl) rfl ?_ | refine op_y (y_nilf rfl) rfl ?_
 first | refine op_y (y_fld Calq4.fo_361_3 rfl) rfl ?_ | refine op_y (y_flda Calq4.fo_361_3 rfl) rfl ?_
 apply op_lds Calq4.sc_284 rfl rfl
 ·exact rm
 ·rfl
 ·(first | exact fun w h => h | exact fun w h => h.drop | (intro w h; apply Sat.only (h := h); exact sx))
 refine op_y (y_move rfl) rfl ?_
 first | refine op_y (y_nil rfl) rfl ?_ | refine op_y (y_nili rfl) rfl ?_ | refine op_y (y_nilf rfl) rfl ?_
 first | refine op_y (y_fld Calq4.fo_361_4 rfl) rfl ?_ | refine op_y (y_flda Calq4.fo_361_4 rfl) rfl ?_
 apply op_lds Calq4.sc_284 rfl rfl
 ·exact rm
 ·rfl
 ·(first | exact fun w h => h | exact fun w h => h.drop | (intro w h; apply Sat.only (h := h); exact sx))
 apply op_c4 Calq4.ca_292 rfl rfl (fun e he_ => pLen_ct e pp room m)
 ·exact sx
 rintro _ _ ⟨rfl, rfl⟩ G_ hG_
 simp only [zn] at hG_; subst hG_
 refine ⟨by (first | exact fun w h => h | exact fun w h => h.drop | (intro w h; apply Sat.only (h := h); exact sx)), ?_⟩
 apply op_c4 Calq4.ca_269 rfl rfl (fun e he_ => hLen_ct e pb room k B)
 ·exact sx
 rintro _ _ ⟨rfl, rfl⟩ G_ hG_
 simp only [zn] at hG_; subst hG_
 refine ⟨by (first | exact fun w h => h | exact fun w h => h.drop | (intro w h; apply Sat.only (h := h); exact sx)), ?_⟩
 first | refine op_y (y_add rfl rfl (wi64 (by omega) (by omega))) rfl ?_ | refine op_y (y_add rfl rfl rfl) rfl ?_
 apply op_c Calq4.ca_269 rfl rfl (fun e he_ => hLen_ct e pa room k A)
 ·exact sx
 rintro _ _ ⟨rfl, rfl⟩ G_ hG_
 simp only [zn] at hG_; subst hG_
 first | refine op_y (y_add rfl rfl (wi64 (by omega) (by omega))) rfl ?_ | refine op_y (y_add rfl rfl rfl) rfl ?_
 refine op_y (y_assign rfl) rfl ?_
 refine op_nil ?_
 refine ent_then ?_
 refine cd_ret ?_
 refine ent_ret1 rfl rfl ⟨_, ⟨by rw [hn]; simp, rfl⟩, fun w h => ?_⟩
 apply Sat.only (h := h)
 exact sx

structure CX where
 base : Nat
 pd : Nat
 pp : Nat
 pb : Nat
 pa : Nat
 B : List It
 x : TS
structure CO (room : Nat) (I : List It) (b : Bool) (s : CX) : Prop where
 wi : WI s.x.W s.x.Q s.x.D s.x.F s.x.m
 ci : CI room s.base s.B s.x.W s.x.A I
 top : b = true → s.B = [] → s.x.W ≠ []
/-- A calendar at block p: items I in order, room; at most k came into either heap. b: the window has the first item, if none is below it. -/
def calG (p : Nat) (I : List It) (room k : Nat) (b : Bool) : As := fun h => ∃ s : CX, CO room I b s ∧
 sepL [pt p 361 (cq s.pd s.pp s.pb s.pa room s.base), setI s.pd s.x.D, poolC s.pp room s.x.m, heapI s.pb s.B room k, heapI s.pa s.x.A room k] h
theorem calG_open {p room k : Nat} {b : Bool} {I : List It} {M : List As} {c : Cx} (w : World) (h : Sat (calG p I room k b :: M) c w) : ∃ s : CX, CO room I b s ∧
 Sat (pt p 361 (cq s.pd s.pp s.pb s.pa room s.base) :: setI s.pd s.x.D :: poolC s.pp room s.x.m :: heapI s.pb s.B room k :: heapI s.pa s.x.A room k :: M) c w := by
 obtain ⟨h1, ⟨s, hx, hs⟩, d, k⟩ := h
 exact ⟨s, hx, Sat.sepL_iff.1 ⟨h1, hs, d, k⟩⟩
theorem calG_shut {p room k : Nat} {b : Bool} {I : List It} {M : List As} {c : Cx} {w : World} (s : CX) (hs : CO room I b s)
 (h : Sat (pt p 361 (cq s.pd s.pp s.pb s.pa room s.base) :: setI s.pd s.x.D :: poolC s.pp room s.x.m :: heapI s.pb s.B room k :: heapI s.pa s.x.A room k :: M) c w) : Sat (calG p I room k b :: M) c w := by
 obtain ⟨h1, hs', d, k⟩ := Sat.sepL_iff.2 (show Sat ([_, _, _, _, _] ++ M) c w from h)
 exact ⟨h1, ⟨s, hs, hs'⟩, d, k⟩
theorem CO.count {room : Nat} {I : List It} {b : Bool} {s : CX} (h : CO room I b s) : I.length = s.x.m.n + s.B.length + s.x.A.length := by
 rw [h.ci.all, h.wi.cnt]; simp; omega

/-- The first item. -/
theorem cPeek_ct (c : Cx) (p room k : Nat) (I : List It) (hroom : room ≤ 4096) : Ct Tryz.prog 285 #[.pointer (some ⟨p, 0, none⟩)] c [calG p I room k false, tabA]
 fun v L => v = tup (topV I) ∧ L = [calG p I room k (decide (I ≠ [])), tabA] := by
 refine ct_fn (args := [.pointer (some ⟨p, 0, none⟩)]) [(0, .pointer (some ⟨p, 0, none⟩))] Tryz.func285 rfl Tryz.ntmps285 rfl ⟨rfl, trivial⟩ ?_
 refine cd_open calG_open ?_
 rintro ⟨base, pd, pp, pb, pa, B, W, A, Q, D, F, m⟩ hco
 have hcnt := hco.count
 have hlen := hco.ci.len
 simp only [] at hcnt ⊢
 refine cd_seq ?_
 refine cd_region [0, 2, 0] ?_
 refine op_y (y_assign rfl) rfl ?_
 refine op_alloc Calq4.ze_62 rfl fun b3 => ?_
 refine op_y (y_assign rfl) rfl ?_
 refine op_nil ?_
 refine ent_then ?_
 refine cd_seq ?_
 refine cd_region [2] ?_
 refine op_alloc Calq4.ze_62 rfl fun b5 => ?_
 refine op_nil ?_
 refine ent_then ?_
 refine cd_seq ?_
 refine cd_seq ?_
 refine cd_region [0, 2, 0] ?_
 refine op_y (y_move rfl) rfl ?_
 apply op_c Calq4.ca_280 rfl rfl (fun e he_ => cLen_ct e p pd pp pb pa room base k m B A I.length hcnt (by omega))
 ·exact sx
 rintro _ _ ⟨rfl, rfl⟩ G_ hG_
 simp only [zn] at hG_; subst hG_
 by_cases h0 : I.length = 0
 ·skip
  first | refine op_y (y_eq rfl rfl (eqT (by omega))) rfl ?_ | refine op_y (y_eq rfl rfl (eqF (by omega))) rfl ?_ | refine op_y (y_eq rfl rfl rfl) rfl ?_
  refine op_nil ?_
  refine ent_then ?_
  refine cd_ift rfl ?_
  refine cd_seq ?_
  refine cd_draw ([]) [0, 1, 2, 3] [1, 0, 2, 0] mixed_ (by kernel_rfl) ?_
  apply op_lda Calq4.ag_62 rfl rfl
  ·exact rm
  ·(first | ((try simp only [zz, splice, Nat.reduceAdd, Nat.zero_mul, Pk.cs]) <;> rfl) | rfl)
  ·rfl
  refine op_y (y_assign rfl) rfl ?_
  apply op_sta Calq4.sz_62 rfl rfl rfl rfl
  ·exact rm
  ·simp
  ·(first | ((try simp only [zz, splice, Nat.reduceAdd, Nat.zero_mul, Pk.cs]) <;> rfl) | rfl)
  refine op_y (y_assign rfl) rfl ?_
  refine op_nil ?_
  refine ent_then ?_
  refine cd_ret ?_
  refine ent_thn_ret ?_
  have hI : I = [] := List.length_eq_zero_iff.1 h0
  subst hI
  refine ent_rets (rs := [_, _, _]) (vs := topV []) (.inl rfl) rfl ⟨rfl, ⟨_, rfl, .inr ⟨_, 3, rfl, rfl, rds_all (by exact rm), rfl⟩⟩, rfl, trivial⟩ ⟨_, ⟨rfl, rfl⟩, fun w h => ?_⟩
  refine calG_shut ⟨base, pd, pp, pb, pa, B, W, A, Q, D, F, m⟩ hco ?_
  apply Sat.only (h := h)
  exact sx
 ·skip
  first | refine op_y (y_eq rfl rfl (eqT (by omega))) rfl ?_ | refine op_y (y_eq rfl rfl (eqF (by omega))) rfl ?_ | refine op_y (y_eq rfl rfl rfl) rfl ?_
  refine op_nil ?_
  refine ent_then ?_
  refine cd_iff rfl ?_
  refine cd_skip ?_
  refine ent_then ?_
  refine cd_seq ?_
  refine cd_seq ?_
  refine cd_region [0, 0, 0, 1, 2, 0, 0, 0, 0, 2, 0, 2, 0] ?_
  refine op_y (y_move rfl) rfl ?_
  first | refine op_y (y_nil rfl) rfl ?_ | refine op_y (y_nili rfl) rfl ?_ | refine op_y (y_nilf rfl) rfl ?_
  first | refine op_y (y_fld Calq4.fo_361_3 rfl) rfl ?_ | refine op_y (y_flda Calq4.fo_361_3 rfl) rfl ?_
  apply op_ld Calq4.sc_284 rfl rfl
  ·exact rm
  ·rfl
  apply op_c Calq4.ca_274 rfl rfl (fun e he_ => hPeek_ct e pb room k B)
  ·exact sx
  rintro _ _ ⟨rfl, rfl⟩ G_ hG_
  simp only [zn] at hG_; subst hG_
  cases B with
  | cons y B' =>
   skip
   refine op_y (y_move rfl) rfl ?_
   refine op_y (y_ext rfl rfl) rfl ?_
   refine op_y (y_ext rfl rfl) rfl ?_
   refine op_y (y_ext rfl rfl) rfl ?_
   refine op_alloc Calq4.ze_62 rfl fun b7 => ?_
   refine op_y (y_assign rfl) rfl ?_
   apply op_sta Calq4.sz_62 rfl rfl rfl rfl
   ·exact rm
   ·simp
   ·(first | ((try simp only [zz, splice, Nat.reduceAdd, Nat.zero_mul, Pk.cs]) <;> rfl) | rfl)
   refine op_y (y_assign rfl) rfl ?_
   refine op_nil ?_
   refine ent_then ?_
   refine cd_seq ?_
   refine cd_region [0] ?_
   refine op_y (y_move rfl) rfl ?_
   refine op_nil ?_
   refine ent_then ?_
   refine cd_ift rfl ?_
   refine cd_seq ?_
   refine cd_draw ([]) [0, 1, 2, 3, 4] [0, 1, 0, 2, 0] mixed_ (by kernel_rfl) ?_
   refine op_y (y_move rfl) rfl ?_
   apply op_lda Calq4.ag_62 rfl rfl
   ·exact rm
   ·(first | ((try simp only [zz, splice, Nat.reduceAdd, Nat.zero_mul, Pk.cs]) <;> rfl) | rfl)
   ·rfl
   refine op_y (y_assign rfl) rfl ?_
   apply op_sta Calq4.sz_62 rfl rfl rfl rfl
   ·exact rm
   ·simp
   ·(first | ((try simp only [zz, splice, Nat.reduceAdd, Nat.zero_mul, Pk.cs]) <;> rfl) | rfl)
   refine op_y (y_assign rfl) rfl ?_
   refine op_nil ?_
   refine ent_then ?_
   refine cd_ret ?_
   refine ent_thn_ret ?_
   have hI : ∃ r, I = y :: r := ⟨_, hco.ci.all⟩
   obtain ⟨r, rfl⟩ := hI
   refine ent_rets (rs := [_, _, _]) (vs := topV (y :: r)) (.inl rfl) rfl ⟨rfl, ⟨_, rfl, .inr ⟨_, 3, rfl, rfl, rds_all (by exact rm), rfl⟩⟩, rfl, trivial⟩ ⟨_, ⟨rfl, rfl⟩, fun w h => ?_⟩
   refine calG_shut ⟨base, pd, pp, pb, pa, y :: B', W, A, Q, D, F, m⟩ ⟨hco.wi, hco.ci, fun _ e => by cases e⟩ ?_
   apply Sat.only (h := h)
   exact sx
  | nil =>
   skip
   refine op_y (y_move rfl) rfl ?_
   refine op_y (y_ext rfl rfl) rfl ?_
   refine op_y (y_ext rfl rfl) rfl ?_
   refine op_y (y_ext rfl rfl) rfl ?_
   refine op_alloc Calq4.ze_62 rfl fun b7 => ?_
   refine op_y (y_assign rfl) rfl ?_
   apply op_sta Calq4.sz_62 rfl rfl rfl rfl
   ·exact rm
   ·simp
   ·(first | ((try simp only [zz, splice, Nat.reduceAdd, Nat.zero_mul, Pk.cs]) <;> rfl) | rfl)
   refine op_y (y_assign rfl) rfl ?_
   refine op_nil ?_
   refine ent_then ?_
   refine cd_seq ?_
   refine cd_region [0] ?_
   refine op_y (y_move rfl) rfl ?_
   refine op_nil ?_
   refine ent_then ?_
   refine cd_iff rfl ?_
   refine cd_skip ?_
   refine ent_then ?_
   refine cd_seq ?_
   refine cd_region [0, 2, 0, 0, 0, 0, 0] ?_
   refine op_y (y_move rfl) rfl ?_
   have hall := hco.ci.all
   simp only [List.nil_append] at hall
   have hne : ∃ y r, I = y :: r := by
    cases hI : I with
    | nil => rw [hI] at h0; simp at h0
    | cons y r => exact ⟨y, r, rfl⟩
   obtain ⟨y, r, rfl⟩ := hne
   have ci := hco.ci
   have h64 : y.rank % 64 < 64 := Nat.mod_lt _ (by decide)
   have hyr := ci.lt y (by simp)
   apply op_c Calq4.ca_288 rfl rfl (fun e he_ => cHead_ct e p pd pp pb pa room base k ⟨W, A, Q, D, F, m⟩ y r ⟨hco.wi, hall.symm, ci.w, ci.a⟩ ci.srt ci.lt ci.bl hlen hroom)
   ·exact sx
   rintro _ _ ⟨⟨W1, A1, Q1, D1, F1, m1⟩, rfl, hx1, ⟨W2, hW⟩, rfl⟩ G_ hG_
   simp only [zn] at hG_; subst hG_
   simp only at hW hx1
   subst hW
   have wi1 := hx1.wi
   simp only at wi1
   obtain ⟨hh, qr, hQ⟩ := wi1.head
   refine op_y (y_move rfl) rfl ?_
   refine op_y (y_ext rfl rfl) rfl ?_
   refine op_y (y_ext rfl rfl) rfl ?_
   refine op_y (y_assign rfl) rfl ?_
   refine op_y (y_assign rfl) rfl ?_
   refine op_nil ?_
   refine ent_then ?_
   refine cd_seq ?_
   refine cd_drawL [0, 1, 2, 3, 4, 5, 6, 7, 8, 9, 10, 11, 12] [0, 0, 0, 3, 0, 0, 4, 2, 0, 0, 0, 0, 0] mixed_ (by kernel_rfl) ?_
   refine op_y (y_move rfl) rfl ?_
   first | refine op_y (y_nil rfl) rfl ?_ | refine op_y (y_nili rfl) rfl ?_ | refine op_y (y_nilf rfl) rfl ?_
   first | refine op_y (y_fld Calq4.fo_361_1 rfl) rfl ?_ | refine op_y (y_flda Calq4.fo_361_1 rfl) rfl ?_
   apply op_lds Calq4.sc_357 rfl rfl
   ·exact rm
   ·rfl
   ·(first | exact fun w h => h | exact fun w h => h.drop | (intro w h; apply Sat.only (h := h); exact sx))
   refine op_y (y_move rfl) rfl ?_
   refine op_y (y_move rfl) rfl ?_
   apply op_c4 Calq4.ca_290 rfl rfl (fun e he_ => cDay_ct e p pd pp pb pa room y.rank y.rank D1 hyr)
   ·exact sx
   rintro _ _ ⟨rfl, rfl⟩ G_ hG_
   simp only [zn] at hG_; subst hG_
   refine ⟨by (first | exact fun w h => h | exact fun w h => h.drop | (intro w h; apply Sat.only (h := h); exact sx)), ?_⟩
   apply op_c Calq4.ca_289 rfl rfl (fun e he_ => qHead_ct e pp room 64 (y.rank % 64) m1 F1 Q1 none wi1.inv h64)
   ·exact sx
   rintro _ _ ⟨hq, rfl⟩ G_ hG_
   simp only [zn] at hG_; subst hG_
   rw [hQ] at hq
   rcases hq with ⟨hq, _⟩ | ⟨i, x, r2, hq, rfl⟩
   ·cases hq
   injection hq with hq1 hq2
   injection hq1 with hq3 hq4
   subst hq3 hq4
   refine op_y (y_move rfl) rfl ?_
   refine op_y (y_ext rfl rfl) rfl ?_
   refine op_y (y_ext rfl rfl) rfl ?_
   refine op_y (y_assign rfl) rfl ?_
   refine op_y (y_assign rfl) rfl ?_
   refine op_nil ?_
   refine ent_then ?_
   refine cd_seq ?_
   refine cd_region [0, 0, 0, 1, 0, 2, 0, 0, 0, 2, 2, 0] ?_
   refine op_y (y_move rfl) rfl ?_
   first | refine op_y (y_nil rfl) rfl ?_ | refine op_y (y_nili rfl) rfl ?_ | refine op_y (y_nilf rfl) rfl ?_
   first | refine op_y (y_fld Calq4.fo_361_1 rfl) rfl ?_ | refine op_y (y_flda Calq4.fo_361_1 rfl) rfl ?_
   apply op_ld Calq4.sc_357 rfl rfl
   ·exact rm
   ·rfl
   refine op_y (y_move rfl) rfl ?_
   apply op_c Calq4.ca_291 rfl rfl (fun e he_ => qGet_ct e pp room 64 (y.rank % 64) hh m1 F1 Q1 none y.pk qr wi1.inv h64 hQ)
   ·exact sx
   rintro _ _ ⟨rfl, rfl⟩ G_ hG_
   simp only [zn] at hG_; subst hG_
   refine op_y (y_move rfl) rfl ?_
   refine op_y (y_ext rfl rfl) rfl ?_
   refine op_y (y_ext rfl rfl) rfl ?_
   refine op_alloc Calq4.ze_62 rfl fun b13 => ?_
   apply op_sta Calq4.sz_62 rfl rfl rfl rfl
   ·exact rm
   ·simp
   ·(first | ((try simp only [zz, splice, Nat.reduceAdd, Nat.zero_mul, Pk.cs]) <;> rfl) | rfl)
   refine op_y (y_assign rfl) rfl ?_
   refine op_nil ?_
   refine ent_then ?_
   refine cd_seq ?_
   refine cd_draw ([]) [0, 1, 2, 3, 4] [0, 1, 0, 2, 0] mixed_ (by kernel_rfl) ?_
   refine op_y (y_move rfl) rfl ?_
   apply op_lda Calq4.ag_62 rfl rfl
   ·exact rm
   ·(first | ((try simp only [zz, splice, Nat.reduceAdd, Nat.zero_mul, Pk.cs]) <;> rfl) | rfl)
   ·rfl
   refine op_y (y_assign rfl) rfl ?_
   apply op_sta Calq4.sz_62 rfl rfl rfl rfl
   ·exact rm
   ·simp
   ·(first | ((try simp only [zz, splice, Nat.reduceAdd, Nat.zero_mul, Pk.cs]) <;> rfl) | rfl)
   refine op_y (y_assign rfl) rfl ?_
   refine op_nil ?_
   refine ent_then ?_
   refine cd_ret ?_
   refine ent_rets (rs := [_, _, _]) (vs := topV (y :: r)) (.inl rfl) rfl ⟨rfl, ⟨_, rfl, .inr ⟨_, 3, rfl, rfl, rds_all (by exact rm), rfl⟩⟩, rfl, trivial⟩ ⟨_, ⟨rfl, rfl⟩, fun w h => ?_⟩
   refine calG_shut ⟨y.rank, pd, pp, pb, pa, [], y :: W2, A1, Q1, D1, F1, m1⟩ ⟨wi1, ⟨hx1.all.symm, ci.srt, (fun z hz => by cases hz), hx1.w, hx1.a, ci.lt, ci.len, hyr⟩, fun _ _ => by simp⟩ ?_
   apply Sat.only (h := h)
   exact sx
end Go.Proofs.YtfkadaodnaaceaaGreatDoor
/- The calendar lets an item in, and the first one leave. -/
namespace Go.Proofs.YtfkadaodnaaceaaGreatDoor
open Go Go.SL
theorem Calq5.ag_62 : aggK Tryz.prog 62 = some 3 := by kernel_rfl
theorem Calq5.ca_276 : callable Tryz.prog 276 = true := by kernel_rfl
theorem Calq5.ca_280 : callable Tryz.prog 280 = true := by kernel_rfl
theorem Calq5.ca_296 : callable Tryz.prog 296 = true := by kernel_rfl
theorem Calq5.ca_297 : callable Tryz.prog 297 = true := by kernel_rfl
theorem Calq5.fo_361_2 : fieldOff Tryz.prog 361 2 = some 2 := by kernel_rfl
theorem Calq5.fo_361_3 : fieldOff Tryz.prog 361 3 = some 3 := by kernel_rfl
theorem Calq5.fo_361_4 : fieldOff Tryz.prog 361 4 = some 4 := by kernel_rfl
theorem Calq5.fo_361_5 : fieldOff Tryz.prog 361 5 = some 5 := by kernel_rfl
theorem Calq5.sc_3 : scalarT Tryz.prog 3 = true := by kernel_rfl
theorem Calq5.sc_22 : scalarT Tryz.prog 22 = true := by kernel_rfl
theorem Calq5.sc_284 : scalarT Tryz.prog 284 = true := by kernel_rfl
theorem Calq5.sz_22 : sizeK Tryz.prog 22 = some 1 := by kernel_rfl
theorem Calq5.un_289 : Tryz.prog.underlying 289 = some (.pointer 361) := by kernel_rfl
set_option maxRecDepth 100000
set_option maxHeartbeats 400000
theorem heapI_mono {p room k k' : Nat} {I : List It} {M : List As} {c : Cx} {w : World} (hk : k ≤ k') (h : Sat (heapI p I room k :: M) c w) : Sat (heapI p I room k' :: M) c w := by
 obtain ⟨⟨L, es, A, cap, came⟩, hp, hs⟩ := heapI_open w h
 exact heapI_shut ⟨hp.it, hp.perm, hp.ok, hp.srt, hp.fresh, Nat.le_trans hp.le hk⟩ hs
theorem CI.ins {room base : Nat} {B W A I : List It} {x : It} (h : CI room base B W A I) (hx : x.rank < 18446744073709551616) (hl : I.length < room) :
 (base ≤ x.rank ∧ x.rank < base + 64 → CI room base B (insI x W) A (insI x I)) ∧ (x.rank < base → CI room base (insI x B) W A (insI x I)) ∧ (base + 64 ≤ x.rank → CI room base B W (insI x A) (insI x I)) := by
 have lt' : ∀ y ∈ insI x I, y.rank < 18446744073709551616 := fun y hy => by
  rcases mem_insI.1 hy with rfl | hy
  ·exact hx
  ·exact h.lt y hy
 have len' : (insI x I).length ≤ room := by rw [insI_length]; omega
 refine ⟨fun ⟨h1, h2⟩ => ⟨?_, insI_sr h.srt, h.b, fun y hy => ?_, h.a, lt', len', h.bl⟩, fun h1 => ⟨?_, insI_sr h.srt, fun y hy => ?_, h.w, h.a, lt', len', h.bl⟩, fun h1 => ⟨?_, insI_sr h.srt, h.b, h.w, fun y hy => ?_, lt', len', h.bl⟩⟩
 ·rw [h.all, insI_ge _ fun y hy => by have := h.b y hy; omega, insI_lt fun y hy => by have := h.a y hy; omega]
 ·rcases mem_insI.1 hy with rfl | hy
  ·exact ⟨h1, h2⟩
  ·exact h.w y hy
 ·rw [h.all, insI_lt fun y hy => ?_]
  rcases List.mem_append.1 hy with hy | hy
  ·have := h.w y hy; omega
  ·have := h.a y hy; omega
 ·rcases mem_insI.1 hy with rfl | hy
  ·exact h1
  ·exact h.b y hy
 ·rw [h.all, insI_ge _ fun y hy => by have := h.b y hy; omega, insI_ge _ fun y hy => by have := h.w y hy; omega]
 ·rcases mem_insI.1 hy with rfl | hy
  ·exact h1
  ·exact h.a y hy
theorem cPush_ct (c : Cx) (p room k : Nat) (I : List It) (x : It) (hroom : room ≤ 4096) (hk : k < 18446744073709551615) (hx : x.rank < 18446744073709551616) : Ct Tryz.prog 287 #[.pointer (some ⟨p, 0, none⟩), .int .u64 x.rank, .agg (Pk.cs x.pk).toArray] c [calG p I room k false]
 fun v L => (room ≤ I.length ∧ v = .bool false ∧ L = [calG p I room k false]) ∨ (I.length < room ∧ v = .bool true ∧ L = [calG p (insI x I) room (k + 1) false]) := by
 refine ct_fn (args := [.pointer (some ⟨p, 0, none⟩), .int .u64 x.rank, .agg (Pk.cs x.pk).toArray]) [(0, .pointer (some ⟨p, 0, none⟩)), (1, .int .u64 x.rank), (2, .agg (Pk.cs x.pk).toArray)] Tryz.func287 rfl Tryz.ntmps287 rfl ⟨rfl, rfl, rfl, trivial⟩ ?_
 refine cd_open calG_open ?_
 rintro ⟨base, pd, pp, pb, pa, B, W, A, Q, D, F, m⟩ hco
 have hcnt := hco.count
 have hlen := hco.ci.len
 have hbl := hco.ci.bl
 simp only [] at hcnt hbl ⊢
 refine cd_seq ?_
 refine cd_region [2, 0] ?_
 refine op_boxa rfl rfl fun b5 => ?_
 refine op_y (y_assign rfl) rfl ?_
 refine op_nil ?_
 refine ent_then ?_
 refine cd_seq ?_
 refine cd_seq ?_
 refine cd_drawL [0, 1, 2, 3, 5, 6, 7, 8, 4, 9, 10] [0, 0, 0, 0, 0, 0, 0, 3, 4, 0, 0] mixed_ (by kernel_rfl) ?_
 refine op_y (y_move rfl) rfl ?_
 first | refine op_y (y_peq (r := false) Calq5.un_289 rfl rfl) rfl ?_ | refine op_y (y_peq (r := true) Calq5.un_289 rfl rfl) rfl ?_ | refine op_y (y_peq Calq5.un_289 rfl rfl) rfl ?_
 refine op_y (y_move rfl) rfl ?_
 first
  | refine op_s1 rfl rfl ⟨rfl, rfl⟩ ?_
  | refine op_s2 rfl rfl ⟨rfl, rfl⟩ ?_
  | (refine op_g rfl rfl ?_
     refine op_y (y_move rfl) rfl ?_)
 first
  | refine op_s1 rfl rfl ⟨rfl, rfl⟩ ?_
  | refine op_s2 rfl rfl ⟨rfl, rfl⟩ ?_
  | (refine op_g rfl rfl ?_
     refine op_y (y_move rfl) rfl ?_)
 first
  | refine op_s1 rfl rfl ⟨rfl, rfl⟩ ?_
  | refine op_s2 rfl rfl ⟨rfl, rfl⟩ ?_
  | (refine op_g rfl rfl ?_
     first | refine op_y (y_nil rfl) rfl ?_ | refine op_y (y_nili rfl) rfl ?_ | refine op_y (y_nilf rfl) rfl ?_)
 first
  | refine op_s1 rfl rfl ⟨rfl, rfl⟩ ?_
  | refine op_s2 rfl rfl ⟨rfl, rfl⟩ ?_
  | (refine op_g rfl rfl ?_
     first | refine op_y (y_fld Calq5.fo_361_5 rfl) rfl ?_ | refine op_y (y_flda Calq5.fo_361_5 rfl) rfl ?_)
 first
  | refine op_s rfl rfl (.inl rfl) rfl (.inr (by (first | exact fun w h => h | exact fun w h => h.drop | (intro w h; apply Sat.only (h := h); exact sx)))) ?_
  | refine op_s rfl rfl (.inr rfl) rfl (.inr (by (first | exact fun w h => h | exact fun w h => h.drop | (intro w h; apply Sat.only (h := h); exact sx)))) ?_
  | (refine op_g rfl rfl ?_
     apply op_lds Calq5.sc_3 rfl rfl
     ·exact rm
     ·rfl
     ·(first | exact fun w h => h | exact fun w h => h.drop | (intro w h; apply Sat.only (h := h); exact sx)))
 refine op_g rfl rfl ?_
 apply op_c4 Calq5.ca_280 rfl rfl (fun e he_ => cLen_ct e p pd pp pb pa room base k m B A I.length hcnt (by omega))
 ·exact sx
 rintro _ _ ⟨rfl, rfl⟩ G_ hG_
 simp only [zn] at hG_; subst hG_
 refine ⟨by (first | exact fun w h => h | exact fun w h => h.drop | (intro w h; apply Sat.only (h := h); exact sx)), ?_⟩
 by_cases hr : room ≤ I.length
 ·skip
  first
   | refine op_s1 rfl rfl ⟨rfl, rfl⟩ ?_
   | refine op_s2 rfl rfl ⟨rfl, rfl⟩ ?_
   | (refine op_g rfl rfl ?_
      first | refine op_y (y_ge rfl rfl (decide_eq_true (by omega))) rfl ?_ | refine op_y (y_ge rfl rfl (decide_eq_false (by omega))) rfl ?_ | refine op_y (y_ge rfl rfl rfl) rfl ?_)
  first | refine op_y (y_pickt rfl rfl) rfl ?_ | refine op_y (y_pickf rfl rfl) rfl ?_ | refine op_y (y_pick rfl rfl rfl) rfl ?_
  refine op_nil ?_
  refine ent_then ?_
  refine cd_ift rfl ?_
  refine cd_seq ?_
  refine cd_region [0] ?_
  refine op_y (y_assign rfl) rfl ?_
  refine op_nil ?_
  refine ent_then ?_
  refine cd_ret ?_
  refine ent_thn_ret ?_
  refine ent_ret1 rfl rfl ⟨_, .inl ⟨hr, rfl, rfl⟩, fun w h => ?_⟩
  refine calG_shut ⟨base, pd, pp, pb, pa, B, W, A, Q, D, F, m⟩ hco ?_
  apply Sat.only (h := h)
  exact sx
 ·skip
  have hins := hco.ci.ins hx (by omega)
  simp only at hins
  have hW := hco.wi.cnt
  simp only at hW
  first
   | refine op_s1 rfl rfl ⟨rfl, rfl⟩ ?_
   | refine op_s2 rfl rfl ⟨rfl, rfl⟩ ?_
   | (refine op_g rfl rfl ?_
      first | refine op_y (y_ge rfl rfl (decide_eq_true (by omega))) rfl ?_ | refine op_y (y_ge rfl rfl (decide_eq_false (by omega))) rfl ?_ | refine op_y (y_ge rfl rfl rfl) rfl ?_)
  first | refine op_y (y_pickt rfl rfl) rfl ?_ | refine op_y (y_pickf rfl rfl) rfl ?_ | refine op_y (y_pick rfl rfl rfl) rfl ?_
  refine op_nil ?_
  refine ent_then ?_
  refine cd_iff rfl ?_
  refine cd_skip ?_
  refine ent_then ?_
  refine cd_seq ?_
  refine cd_seq ?_
  refine cd_region [0, 2, 0] ?_
  refine op_y (y_move rfl) rfl ?_
  apply op_c Calq5.ca_280 rfl rfl (fun e he_ => cLen_ct e p pd pp pb pa room base k m B A I.length hcnt (by omega))
  ·exact sx
  rintro _ _ ⟨rfl, rfl⟩ G_ hG_
  simp only [zn] at hG_; subst hG_
  by_cases h0 : I.length = 0
  ·skip
   have hB : B = [] := List.length_eq_zero_iff.1 (by omega)
   have hWn : W = [] := List.length_eq_zero_iff.1 (by omega)
   have hA : A = [] := List.length_eq_zero_iff.1 (by omega)
   have hI : I = [] := List.length_eq_zero_iff.1 h0
   subst hB hWn hA hI
   have ci0 : CI room x.rank [] [] [] [] := ⟨rfl, List.Pairwise.nil, (fun _ h => by cases h), (fun _ h => by cases h), (fun _ h => by cases h), (fun _ h => by cases h), by simp, hx⟩
   have ci1 := (ci0.ins hx (by simp only [List.length_nil] at hr ⊢; omega)).1 ⟨Nat.le_refl _, by omega⟩
   first | refine op_y (y_eq rfl rfl (eqT (by omega))) rfl ?_ | refine op_y (y_eq rfl rfl (eqF (by omega))) rfl ?_ | refine op_y (y_eq rfl rfl rfl) rfl ?_
   refine op_nil ?_
   refine ent_then ?_
   refine cd_ift rfl ?_
   refine cd_region [0, 0, 0, 0, 2] ?_
   refine op_y (y_move rfl) rfl ?_
   refine op_y (y_move rfl) rfl ?_
   first | refine op_y (y_nil rfl) rfl ?_ | refine op_y (y_nili rfl) rfl ?_ | refine op_y (y_nilf rfl) rfl ?_
   first | refine op_y (y_fld Calq5.fo_361_2 rfl) rfl ?_ | refine op_y (y_flda Calq5.fo_361_2 rfl) rfl ?_
   apply op_st1 Calq5.sz_22 rfl rfl rfl
   ·exact rm
   ·rfl
   ·(first | ((try simp only [zz, splice, Nat.reduceAdd, Nat.zero_mul, Pk.cs]) <;> rfl) | rfl)
   refine op_nil ?_
   refine ent_then ?_
   refine cd_seq ?_
   refine cd_block ?_
   refine cd_seq ?_
   refine cd_region [0, 0, 2, 0] ?_
   refine op_y (y_move rfl) rfl ?_
   refine op_y (y_move rfl) rfl ?_
   apply op_c Calq5.ca_296 rfl rfl (fun e he_ => cWithin_ct e p pd pp pb pa room x.rank x.rank D hx hx)
   ·exact sx
   rintro _ _ ⟨rfl, rfl⟩ G_ hG_
   simp only [zn] at hG_; subst hG_
   rw [decide_eq_true (show x.rank ≤ x.rank ∧ x.rank < x.rank + 64 by omega)]
   refine op_y (y_assign rfl) rfl ?_
   refine op_nil ?_
   refine ent_then ?_
   refine cd_ift rfl ?_
   refine cd_region [0, 0, 1, 2] ?_
   refine op_y (y_move rfl) rfl ?_
   refine op_y (y_move rfl) rfl ?_
   apply op_lda Calq5.ag_62 rfl rfl
   ·exact rm
   ·(first | ((try simp only [zz, splice, Nat.reduceAdd, Nat.zero_mul, Pk.cs]) <;> rfl) | rfl)
   ·rfl
   apply op_c Calq5.ca_297 rfl rfl (fun e he_ => cLay_ct e p pd pp pb pa room x.rank [] Q D F m x hco.wi List.Pairwise.nil (fun _ h => by cases h) hx (by simp only [List.length_nil] at hr ⊢; omega) hroom hco.wi.dlen)
   ·exact sx
   rintro _ _ ⟨Q', D', F', m', rfl, wi', rfl⟩ G_ hG_
   simp only [zn] at hG_; subst hG_
   refine op_nil ?_
   refine ent_block ?_
   refine ent_then ?_
   refine cd_seq ?_
   refine cd_region [0] ?_
   refine op_y (y_assign rfl) rfl ?_
   refine op_nil ?_
   refine ent_then ?_
   refine cd_ret ?_
   refine ent_ret1 rfl rfl ⟨_, .inr ⟨by omega, rfl, rfl⟩, fun w h => ?_⟩
   refine calG_shut ⟨x.rank, pd, pp, pb, pa, [], insI x [], [], Q', D', F', m'⟩ ⟨wi', ci1, fun e => by cases e⟩ ?_
   refine Sat.perm (List.Perm.trans ((List.perm_append_comm (l₁ := [_, _]) (l₂ := [_, _, _]))) (.refl _)) (L := [heapI pb [] room (k + 1), heapI pa [] room (k + 1), pt p 361 (cq pd pp pb pa room x.rank), setI pd D', poolC pp room m']) (heapI_mono (Nat.le_succ k) (Sat.swap (heapI_mono (Nat.le_succ k) ?_)))
   apply Sat.only (h := h)
   exact sx
  ·skip
   first | refine op_y (y_eq rfl rfl (eqT (by omega))) rfl ?_ | refine op_y (y_eq rfl rfl (eqF (by omega))) rfl ?_ | refine op_y (y_eq rfl rfl rfl) rfl ?_
   refine op_nil ?_
   refine ent_then ?_
   refine cd_iff rfl ?_
   refine cd_skip ?_
   refine ent_then ?_
   refine cd_seq ?_
   refine cd_block ?_
   refine cd_seq ?_
   refine cd_region [0, 0, 2, 0] ?_
   refine op_y (y_move rfl) rfl ?_
   refine op_y (y_move rfl) rfl ?_
   apply op_c Calq5.ca_296 rfl rfl (fun e he_ => cWithin_ct e p pd pp pb pa room base x.rank D hx hbl)
   ·exact sx
   rintro _ _ ⟨rfl, rfl⟩ G_ hG_
   simp only [zn] at hG_; subst hG_
   by_cases hin : base ≤ x.rank ∧ x.rank < base + 64
   ·rw [decide_eq_true hin]
    skip
    refine op_y (y_assign rfl) rfl ?_
    refine op_nil ?_
    refine ent_then ?_
    refine cd_ift rfl ?_
    refine cd_region [0, 0, 1, 2] ?_
    refine op_y (y_move rfl) rfl ?_
    refine op_y (y_move rfl) rfl ?_
    apply op_lda Calq5.ag_62 rfl rfl
    ·exact rm
    ·(first | ((try simp only [zz, splice, Nat.reduceAdd, Nat.zero_mul, Pk.cs]) <;> rfl) | rfl)
    ·rfl
    have hsW : SR W := by have := hco.ci.srt; rw [hco.ci.all] at this; exact (List.pairwise_append.1 (List.pairwise_append.1 this).2.1).1
    apply op_c Calq5.ca_297 rfl rfl (fun e he_ => cLay_ct e p pd pp pb pa room base W Q D F m x hco.wi hsW (fun z hz he => by have := hco.ci.w z hz; simp only at this; omega) hx (by omega) hroom hco.wi.dlen)
    ·exact sx
    rintro _ _ ⟨Q', D', F', m', rfl, wi', rfl⟩ G_ hG_
    simp only [zn] at hG_; subst hG_
    refine op_nil ?_
    refine ent_block ?_
    refine ent_then ?_
    refine cd_seq ?_
    refine cd_region [0] ?_
    refine op_y (y_assign rfl) rfl ?_
    refine op_nil ?_
    refine ent_then ?_
    refine cd_ret ?_
    refine ent_ret1 rfl rfl ⟨_, .inr ⟨by omega, rfl, rfl⟩, fun w h => ?_⟩
    refine calG_shut ⟨base, pd, pp, pb, pa, B, insI x W, A, Q', D', F', m'⟩ ⟨wi', hins.1 hin, fun e => by cases e⟩ ?_
    refine Sat.perm (List.Perm.trans ((List.perm_append_comm (l₁ := [_, _]) (l₂ := [_, _, _]))) (.refl _)) (L := [heapI pb B room (k + 1), heapI pa A room (k + 1), pt p 361 (cq pd pp pb pa room base), setI pd D', poolC pp room m']) (heapI_mono (Nat.le_succ k) (Sat.swap (heapI_mono (Nat.le_succ k) ?_)))
    apply Sat.only (h := h)
    exact sx
   ·rw [decide_eq_false hin]
    skip
    refine op_y (y_assign rfl) rfl ?_
    refine op_nil ?_
    refine ent_then ?_
    refine cd_iff rfl ?_
    by_cases hlo : x.rank < base
    ·skip
     refine cd_seq ?_
     refine cd_region [0, 0, 0, 0, 1, 0, 0] ?_
     refine op_y (y_move rfl) rfl ?_
     refine op_y (y_move rfl) rfl ?_
     first | refine op_y (y_nil rfl) rfl ?_ | refine op_y (y_nili rfl) rfl ?_ | refine op_y (y_nilf rfl) rfl ?_
     first | refine op_y (y_fld Calq5.fo_361_2 rfl) rfl ?_ | refine op_y (y_flda Calq5.fo_361_2 rfl) rfl ?_
     apply op_ld Calq5.sc_22 rfl rfl
     ·exact rm
     ·rfl
     first | refine op_y (y_lt rfl rfl (decide_eq_true (by omega))) rfl ?_ | refine op_y (y_lt rfl rfl (decide_eq_false (by omega))) rfl ?_ | refine op_y (y_lt rfl rfl rfl) rfl ?_
     refine op_y (y_assign rfl) rfl ?_
     refine op_nil ?_
     refine ent_then ?_
     refine cd_ift rfl ?_
     refine cd_draw ([]) [0, 1, 2, 3, 4, 5, 6] [0, 0, 0, 1, 0, 1, 2] mixed_ (by kernel_rfl) ?_
     refine op_y (y_move rfl) rfl ?_
     first | refine op_y (y_nil rfl) rfl ?_ | refine op_y (y_nili rfl) rfl ?_ | refine op_y (y_nilf rfl) rfl ?_
     first | refine op_y (y_fld Calq5.fo_361_3 rfl) rfl ?_ | refine op_y (y_flda Calq5.fo_361_3 rfl) rfl ?_
     apply op_ld Calq5.sc_284 rfl rfl
     ·exact rm
     ·rfl
     refine op_y (y_move rfl) rfl ?_
     apply op_lda Calq5.ag_62 rfl rfl
     ·exact rm
     ·(first | ((try simp only [zz, splice, Nat.reduceAdd, Nat.zero_mul, Pk.cs]) <;> rfl) | rfl)
     ·rfl
     apply op_c Calq5.ca_276 rfl rfl (fun e he_ => hPush_ct e pb room k B x (by omega) hk)
     ·exact sx
     rintro _ _ hP G_ hG_
     rcases hP with ⟨hP, _⟩ | ⟨_, rfl, rfl⟩
     ·omega
     simp only [zn] at hG_; subst hG_
     refine op_nil ?_
     refine ent_block ?_
     refine ent_then ?_
     refine cd_seq ?_
     refine cd_region [0] ?_
     refine op_y (y_assign rfl) rfl ?_
     refine op_nil ?_
     refine ent_then ?_
     refine cd_ret ?_
     refine ent_ret1 rfl rfl ⟨_, .inr ⟨by omega, rfl, rfl⟩, fun w h => ?_⟩
     refine calG_shut ⟨base, pd, pp, pb, pa, insI x B, W, A, Q, D, F, m⟩ ⟨hco.wi, hins.2.1 hlo, fun e => by cases e⟩ ?_
     refine Sat.perm (List.Perm.trans ((List.perm_append_comm (l₁ := [_]) (l₂ := [_, _, _, _]))) (.refl _)) (L := [heapI pa A room (k + 1), pt p 361 (cq pd pp pb pa room base), setI pd D, poolC pp room m, heapI pb (insI x B) room (k + 1)]) (heapI_mono (Nat.le_succ k) ?_)
     apply Sat.only (h := h)
     exact sx
    ·skip
     refine cd_seq ?_
     refine cd_region [0, 0, 0, 0, 1, 0, 0] ?_
     refine op_y (y_move rfl) rfl ?_
     refine op_y (y_move rfl) rfl ?_
     first | refine op_y (y_nil rfl) rfl ?_ | refine op_y (y_nili rfl) rfl ?_ | refine op_y (y_nilf rfl) rfl ?_
     first | refine op_y (y_fld Calq5.fo_361_2 rfl) rfl ?_ | refine op_y (y_flda Calq5.fo_361_2 rfl) rfl ?_
     apply op_ld Calq5.sc_22 rfl rfl
     ·exact rm
     ·rfl
     first | refine op_y (y_lt rfl rfl (decide_eq_true (by omega))) rfl ?_ | refine op_y (y_lt rfl rfl (decide_eq_false (by omega))) rfl ?_ | refine op_y (y_lt rfl rfl rfl) rfl ?_
     refine op_y (y_assign rfl) rfl ?_
     refine op_nil ?_
     refine ent_then ?_
     refine cd_iff rfl ?_
     refine cd_draw ([]) [0, 1, 2, 3, 4, 5, 6] [0, 0, 0, 1, 0, 1, 2] mixed_ (by kernel_rfl) ?_
     refine op_y (y_move rfl) rfl ?_
     first | refine op_y (y_nil rfl) rfl ?_ | refine op_y (y_nili rfl) rfl ?_ | refine op_y (y_nilf rfl) rfl ?_
     first | refine op_y (y_fld Calq5.fo_361_4 rfl) rfl ?_ | refine op_y (y_flda Calq5.fo_361_4 rfl) rfl ?_
     apply op_ld Calq5.sc_284 rfl rfl
     ·exact rm
     ·rfl
     refine op_y (y_move rfl) rfl ?_
     apply op_lda Calq5.ag_62 rfl rfl
     ·exact rm
     ·(first | ((try simp only [zz, splice, Nat.reduceAdd, Nat.zero_mul, Pk.cs]) <;> rfl) | rfl)
     ·rfl
     apply op_c Calq5.ca_276 rfl rfl (fun e he_ => hPush_ct e pa room k A x (by omega) hk)
     ·exact sx
     rintro _ _ hP G_ hG_
     rcases hP with ⟨hP, _⟩ | ⟨_, rfl, rfl⟩
     ·omega
     simp only [zn] at hG_; subst hG_
     refine op_nil ?_
     refine ent_block ?_
     refine ent_then ?_
     refine cd_seq ?_
     refine cd_region [0] ?_
     refine op_y (y_assign rfl) rfl ?_
     refine op_nil ?_
     refine ent_then ?_
     refine cd_ret ?_
     refine ent_ret1 rfl rfl ⟨_, .inr ⟨by omega, rfl, rfl⟩, fun w h => ?_⟩
     refine calG_shut ⟨base, pd, pp, pb, pa, B, W, insI x A, Q, D, F, m⟩ ⟨hco.wi, hins.2.2 (by omega), fun e => by cases e⟩ ?_
     have h2 : Sat [heapI pb B room k, heapI pa (insI x A) room (k + 1), pt p 361 (cq pd pp pb pa room base), setI pd D, poolC pp room m] c w := by
      apply Sat.only (h := h)
      exact sx
     have h3 := heapI_mono (Nat.le_succ k) h2
     apply Sat.only (h := h3)
     exact sx
end Go.Proofs.YtfkadaodnaaceaaGreatDoor
/- The calendar lets the first item leave. -/
namespace Go.Proofs.YtfkadaodnaaceaaGreatDoor
open Go Go.SL
theorem Calq6.ag_62 : aggK Tryz.prog 62 = some 3 := by kernel_rfl
theorem Calq6.ca_269 : callable Tryz.prog 269 = true := by kernel_rfl
theorem Calq6.ca_275 : callable Tryz.prog 275 = true := by kernel_rfl
theorem Calq6.ca_285 : callable Tryz.prog 285 = true := by kernel_rfl
theorem Calq6.ca_289 : callable Tryz.prog 289 = true := by kernel_rfl
theorem Calq6.ca_290 : callable Tryz.prog 290 = true := by kernel_rfl
theorem Calq6.ca_293 : callable Tryz.prog 293 = true := by kernel_rfl
theorem Calq6.ca_294 : callable Tryz.prog 294 = true := by kernel_rfl
theorem Calq6.ca_295 : callable Tryz.prog 295 = true := by kernel_rfl
theorem Calq6.fo_361_0 : fieldOff Tryz.prog 361 0 = some 0 := by kernel_rfl
theorem Calq6.fo_361_1 : fieldOff Tryz.prog 361 1 = some 1 := by kernel_rfl
theorem Calq6.fo_361_3 : fieldOff Tryz.prog 361 3 = some 3 := by kernel_rfl
theorem Calq6.sc_284 : scalarT Tryz.prog 284 = true := by kernel_rfl
theorem Calq6.sc_354 : scalarT Tryz.prog 354 = true := by kernel_rfl
theorem Calq6.sc_357 : scalarT Tryz.prog 357 = true := by kernel_rfl
theorem Calq6.sz_62 : sizeK Tryz.prog 62 = some 3 := by kernel_rfl
theorem Calq6.ze_62 : zeroC Tryz.prog 62 = some [.int .u32 0, .int .u32 0, .int .u64 0] := by kernel_rfl
set_option maxRecDepth 100000
set_option maxHeartbeats 400000
theorem cPop_ct (c : Cx) (p room k : Nat) (I : List It) (hroom : room ≤ 4096) : Ct Tryz.prog 286 #[.pointer (some ⟨p, 0, none⟩)] c [calG p I room k false, tabA]
 fun v L => v = tup (topV I) ∧ L = [calG p I.tail room k false, tabA] := by
 refine ct_fn (args := [.pointer (some ⟨p, 0, none⟩)]) [(0, .pointer (some ⟨p, 0, none⟩))] Tryz.func286 rfl Tryz.ntmps286 rfl ⟨rfl, trivial⟩ ?_
 refine cd_seq ?_
 refine cd_region [0, 2, 0] ?_
 refine op_y (y_assign rfl) rfl ?_
 refine op_alloc Calq6.ze_62 rfl fun b3 => ?_
 refine op_y (y_assign rfl) rfl ?_
 refine op_nil ?_
 refine ent_then ?_
 refine cd_seq ?_
 refine cd_region [0, 2, 0, 0, 0, 0, 2, 0, 2, 0] ?_
 refine op_y (y_move rfl) rfl ?_
 apply op_c Calq6.ca_285 rfl rfl (fun e he_ => cPeek_ct e p room k I hroom)
 ·exact sx
 rintro _ _ ⟨rfl, rfl⟩ G_ hG_
 simp only [zn] at hG_; subst hG_
 cases I with
 | nil =>
  skip
  rw [show decide (([] : List It) ≠ []) = false by simp]
  refine op_y (y_move rfl) rfl ?_
  refine op_y (y_ext rfl rfl) rfl ?_
  refine op_y (y_ext rfl rfl) rfl ?_
  refine op_y (y_ext rfl rfl) rfl ?_
  refine op_alloc Calq6.ze_62 rfl fun b6 => ?_
  refine op_y (y_assign rfl) rfl ?_
  apply op_sta Calq6.sz_62 rfl rfl rfl rfl
  ·exact rm
  ·simp
  ·(first | ((try simp only [zz, splice, Nat.reduceAdd, Nat.zero_mul, Pk.cs]) <;> rfl) | rfl)
  refine op_y (y_assign rfl) rfl ?_
  refine op_nil ?_
  refine ent_then ?_
  refine cd_seq ?_
  refine cd_seq ?_
  refine cd_region [0, 0] ?_
  refine op_y (y_move rfl) rfl ?_
  first | refine op_y (y_not (b := true) (r := false) rfl rfl) rfl ?_ | refine op_y (y_not (b := false) (r := true) rfl rfl) rfl ?_ | refine op_y (y_not rfl rfl) rfl ?_
  refine op_nil ?_
  refine ent_then ?_
  refine cd_ift rfl ?_
  refine cd_seq ?_
  refine cd_draw ([]) [0, 1, 2, 3, 4, 5] [0, 1, 0, 0, 2, 0] mixed_ (by kernel_rfl) ?_
  refine op_y (y_move rfl) rfl ?_
  apply op_lda Calq6.ag_62 rfl rfl
  ·exact rm
  ·(first | ((try simp only [zz, splice, Nat.reduceAdd, Nat.zero_mul, Pk.cs]) <;> rfl) | rfl)
  ·rfl
  refine op_y (y_move rfl) rfl ?_
  refine op_y (y_assign rfl) rfl ?_
  apply op_sta Calq6.sz_62 rfl rfl rfl rfl
  ·exact rm
  ·simp
  ·(first | ((try simp only [zz, splice, Nat.reduceAdd, Nat.zero_mul, Pk.cs]) <;> rfl) | rfl)
  refine op_y (y_assign rfl) rfl ?_
  refine op_nil ?_
  refine ent_then ?_
  refine cd_ret ?_
  refine ent_thn_ret ?_
  refine ent_rets (rs := [_, _, _]) (vs := topV []) (.inl rfl) rfl ⟨rfl, ⟨_, rfl, .inr ⟨_, 3, rfl, rfl, rds_all (by exact rm), rfl⟩⟩, rfl, trivial⟩ ⟨_, ⟨rfl, rfl⟩, fun w h => ?_⟩
  show Sat [calG p [] room k false, tabA] c w
  apply Sat.only (h := h)
  exact sx
 | cons y r =>
  skip
  rw [show decide (y :: r ≠ []) = true by simp]
  simp only [List.tail_cons]
  refine op_y (y_move rfl) rfl ?_
  refine op_y (y_ext rfl rfl) rfl ?_
  refine op_y (y_ext rfl rfl) rfl ?_
  refine op_y (y_ext rfl rfl) rfl ?_
  refine op_alloc Calq6.ze_62 rfl fun b6 => ?_
  refine op_y (y_assign rfl) rfl ?_
  apply op_sta Calq6.sz_62 rfl rfl rfl rfl
  ·exact rm
  ·simp
  ·(first | ((try simp only [zz, splice, Nat.reduceAdd, Nat.zero_mul, Pk.cs]) <;> rfl) | rfl)
  refine op_y (y_assign rfl) rfl ?_
  refine op_nil ?_
  refine ent_then ?_
  refine cd_seq ?_
  refine cd_seq ?_
  refine cd_region [0, 0] ?_
  refine op_y (y_move rfl) rfl ?_
  first | refine op_y (y_not (b := true) (r := false) rfl rfl) rfl ?_ | refine op_y (y_not (b := false) (r := true) rfl rfl) rfl ?_ | refine op_y (y_not rfl rfl) rfl ?_
  refine op_nil ?_
  refine ent_then ?_
  refine cd_iff rfl ?_
  apply cd_openR (A := calG p (y :: r) room k true)
  ·exact rm
  ·exact calG_open
  rintro ⟨base, pd, pp, pb, pa, B, W, A, Q, D, F, m⟩ hco
  have hlen := hco.ci.len
  have ci := hco.ci
  have hsr := ci.srt
  simp only [] at ci ⊢
  have hyr := ci.lt y (by simp)
  refine cd_skip ?_
  refine ent_then ?_
  refine cd_seq ?_
  refine cd_seq ?_
  refine cd_region [0, 0, 0, 1, 2, 0] ?_
  refine op_y (y_move rfl) rfl ?_
  first | refine op_y (y_nil rfl) rfl ?_ | refine op_y (y_nili rfl) rfl ?_ | refine op_y (y_nilf rfl) rfl ?_
  first | refine op_y (y_fld Calq6.fo_361_3 rfl) rfl ?_ | refine op_y (y_flda Calq6.fo_361_3 rfl) rfl ?_
  apply op_ld Calq6.sc_284 rfl rfl
  ·exact rm
  ·rfl
  apply op_c Calq6.ca_269 rfl rfl (fun e he_ => hLen_ct e pb room k B)
  ·exact sx
  rintro _ _ ⟨rfl, rfl⟩ G_ hG_
  simp only [zn] at hG_; subst hG_
  cases B with
  | cons y' B' =>
   have hall := ci.all
   rw [List.cons_append] at hall
   injection hall with e1 e2
   subst e1
   skip
   have hBl : (y :: B').length ≤ (y :: r).length := by rw [e2]; simp
   have hpos : 0 < (y :: B').length := by simp
   first | refine op_y (y_gt rfl rfl (decide_eq_true (by omega))) rfl ?_ | refine op_y (y_gt rfl rfl (decide_eq_false (by omega))) rfl ?_ | refine op_y (y_gt rfl rfl rfl) rfl ?_
   refine op_nil ?_
   refine ent_then ?_
   refine cd_ift rfl ?_
   refine cd_seq ?_
   refine cd_region [0, 0, 0, 1, 2, 0, 0, 0, 0, 2, 0] ?_
   refine op_y (y_move rfl) rfl ?_
   first | refine op_y (y_nil rfl) rfl ?_ | refine op_y (y_nili rfl) rfl ?_ | refine op_y (y_nilf rfl) rfl ?_
   first | refine op_y (y_fld Calq6.fo_361_3 rfl) rfl ?_ | refine op_y (y_flda Calq6.fo_361_3 rfl) rfl ?_
   apply op_ld Calq6.sc_284 rfl rfl
   ·exact rm
   ·rfl
   apply op_c Calq6.ca_275 rfl rfl (fun e he_ => hPop_ct e pb room k (y :: B') (by omega))
   ·exact sx
   rintro _ _ ⟨rfl, rfl⟩ G_ hG_
   simp only [zn] at hG_; subst hG_
   simp only [List.tail_cons]
   refine op_y (y_ext rfl rfl) rfl ?_
   refine op_y (y_ext rfl rfl) rfl ?_
   refine op_y (y_ext rfl rfl) rfl ?_
   refine op_y (y_assign rfl) rfl ?_
   apply op_sta Calq6.sz_62 rfl rfl rfl rfl
   ·exact rm
   ·simp
   ·(first | ((try simp only [zz, splice, Nat.reduceAdd, Nat.zero_mul, Pk.cs]) <;> rfl) | rfl)
   refine op_y (y_assign rfl) rfl ?_
   refine op_nil ?_
   refine ent_then ?_
   refine cd_ret ?_
   refine ent_thn_ret ?_
   refine ent_rets (rs := [_, _, _]) (vs := topV (y :: r)) (.inl rfl) rfl ⟨rfl, ⟨_, rfl, .inr ⟨_, 3, rfl, rfl, rds_all (by exact rm), rfl⟩⟩, rfl, trivial⟩ ⟨_, ⟨rfl, rfl⟩, fun w h => ?_⟩
   refine calG_shut ⟨base, pd, pp, pb, pa, B', W, A, Q, D, F, m⟩ ⟨hco.wi, ⟨e2, (List.pairwise_cons.1 hsr).2, fun z hz => ci.b z (by simp [hz]), ci.w, ci.a, fun z hz => ci.lt z (by simp [hz]), by simp at hlen; omega, ci.bl⟩, fun e => by cases e⟩ ?_
   apply Sat.only (h := h)
   exact sx
  | nil =>
   skip
   cases W with
   | nil => exact absurd rfl (hco.top rfl rfl)
   | cons y' W2 =>
    have hall := ci.all
    rw [List.nil_append, List.cons_append] at hall
    injection hall with e1 e2
    subst e1
    have wi := hco.wi
    simp only [] at wi
    obtain ⟨hh, qr, hQ⟩ := wi.head
    have h64 : y.rank % 64 < 64 := Nat.mod_lt _ (by decide)
    have hyD : y.rank % 64 ∈ D := (wi.mem_day h64).2 ⟨y, by simp, rfl⟩
    have hn := wi.cnt
    simp only [List.length_cons] at hn
    first | refine op_y (y_gt rfl rfl (decide_eq_true (by omega))) rfl ?_ | refine op_y (y_gt rfl rfl (decide_eq_false (by omega))) rfl ?_ | refine op_y (y_gt rfl rfl rfl) rfl ?_
    refine op_nil ?_
    refine ent_then ?_
    refine cd_iff rfl ?_
    refine cd_skip ?_
    refine ent_then ?_
    refine cd_seq ?_
    refine cd_region [0, 0, 2, 0] ?_
    refine op_y (y_move rfl) rfl ?_
    refine op_y (y_move rfl) rfl ?_
    apply op_c Calq6.ca_290 rfl rfl (fun e he_ => cDay_ct e p pd pp pb pa room base y.rank D hyr)
    ·exact sx
    rintro _ _ ⟨rfl, rfl⟩ G_ hG_
    simp only [zn] at hG_; subst hG_
    refine op_y (y_assign rfl) rfl ?_
    refine op_nil ?_
    refine ent_then ?_
    refine cd_seq ?_
    refine cd_region [0, 0, 0, 1, 0, 2, 0, 0, 0, 0, 0] ?_
    refine op_y (y_move rfl) rfl ?_
    first | refine op_y (y_nil rfl) rfl ?_ | refine op_y (y_nili rfl) rfl ?_ | refine op_y (y_nilf rfl) rfl ?_
    first | refine op_y (y_fld Calq6.fo_361_1 rfl) rfl ?_ | refine op_y (y_flda Calq6.fo_361_1 rfl) rfl ?_
    apply op_ld Calq6.sc_357 rfl rfl
    ·exact rm
    ·rfl
    refine op_y (y_move rfl) rfl ?_
    apply op_c Calq6.ca_293 rfl rfl (fun e he_ => qPop_ct e pp room 64 (y.rank % 64) hh m F Q y.pk qr wi.inv h64 hQ)
    ·exact sx
    rintro _ _ ⟨m1, rfl, rfl, inv1, n1⟩ G_ hG_
    simp only [zn] at hG_; subst hG_
    refine op_y (y_move rfl) rfl ?_
    refine op_y (y_ext rfl rfl) rfl ?_
    refine op_y (y_ext rfl rfl) rfl ?_
    refine op_y (y_assign rfl) rfl ?_
    refine op_y (y_assign rfl) rfl ?_
    refine op_nil ?_
    refine ent_then ?_
    refine cd_seq ?_
    refine cd_region [0, 0, 0, 1, 0, 2] ?_
    refine op_y (y_move rfl) rfl ?_
    first | refine op_y (y_nil rfl) rfl ?_ | refine op_y (y_nili rfl) rfl ?_ | refine op_y (y_nilf rfl) rfl ?_
    first | refine op_y (y_fld Calq6.fo_361_1 rfl) rfl ?_ | refine op_y (y_flda Calq6.fo_361_1 rfl) rfl ?_
    apply op_ld Calq6.sc_357 rfl rfl
    ·exact rm
    ·rfl
    refine op_y (y_move rfl) rfl ?_
    apply op_c Calq6.ca_294 rfl rfl (fun e he_ => qGive_ct e pp room 64 hh W2.length m1 F (upd Q (y.rank % 64) qr) y.pk inv1 (by omega))
    ·exact sx
    rintro _ _ ⟨m2, F2, rfl, rfl, inv2, n2⟩ G_ hG_
    simp only [zn] at hG_; subst hG_
    refine op_nil ?_
    refine ent_then ?_
    refine cd_seq ?_
    refine cd_seq ?_
    refine cd_region [0, 0, 0, 1, 0, 2, 0, 0, 0, 0, 0] ?_
    refine op_y (y_move rfl) rfl ?_
    first | refine op_y (y_nil rfl) rfl ?_ | refine op_y (y_nili rfl) rfl ?_ | refine op_y (y_nilf rfl) rfl ?_
    first | refine op_y (y_fld Calq6.fo_361_1 rfl) rfl ?_ | refine op_y (y_flda Calq6.fo_361_1 rfl) rfl ?_
    apply op_ld Calq6.sc_357 rfl rfl
    ·exact rm
    ·rfl
    refine op_y (y_move rfl) rfl ?_
    apply op_c Calq6.ca_289 rfl rfl (fun e he_ => qHead_ct e pp room 64 (y.rank % 64) m2 F2 (upd Q (y.rank % 64) qr) none inv2 h64)
    ·exact sx
    rintro _ _ ⟨hq, rfl⟩ G_ hG_
    simp only [zn] at hG_; subst hG_
    rw [upd_self] at hq
    have cir : CI room base [] W2 A r := ⟨by rw [e2]; rfl, (List.pairwise_cons.1 hsr).2, (fun z hz => by cases hz), fun z hz => ci.w z (by simp [hz]), ci.a, fun z hz => ci.lt z (by simp [hz]), by simp at hlen; omega, ci.bl⟩
    have hmm : m.n = m2.n + 1 := by omega
    rcases hq with ⟨hq, rfl⟩ | ⟨i, x, r2, hq, rfl⟩
    ·skip
     refine op_y (y_move rfl) rfl ?_
     refine op_y (y_ext rfl rfl) rfl ?_
     refine op_y (y_ext rfl rfl) rfl ?_
     refine op_y (y_assign rfl) rfl ?_
     refine op_y (y_assign rfl) rfl ?_
     refine op_nil ?_
     refine ent_then ?_
     refine cd_seq ?_
     refine cd_region [0, 0] ?_
     refine op_y (y_move rfl) rfl ?_
     first | refine op_y (y_not (b := true) (r := false) rfl rfl) rfl ?_ | refine op_y (y_not (b := false) (r := true) rfl rfl) rfl ?_ | refine op_y (y_not rfl rfl) rfl ?_
     refine op_nil ?_
     refine ent_then ?_
     refine cd_ift rfl ?_
     refine cd_region [0, 0, 0, 1, 0, 2] ?_
     refine op_y (y_move rfl) rfl ?_
     first | refine op_y (y_nil rfl) rfl ?_ | refine op_y (y_nili rfl) rfl ?_ | refine op_y (y_nilf rfl) rfl ?_
     first | refine op_y (y_fld0 Calq6.fo_361_0 rfl) rfl ?_ | refine op_y (y_flda Calq6.fo_361_0 rfl) rfl ?_
     apply op_ld Calq6.sc_354 rfl rfl
     ·exact rm
     ·rfl
     refine op_y (y_move rfl) rfl ?_
     apply op_c Calq6.ca_295 rfl rfl (fun e he_ => fDrop_ct e pd (y.rank % 64) D h64 hyD wi.dlen)
     ·exact sx
     rintro _ _ ⟨rfl, rfl⟩ G_ hG_
     simp only [zn] at hG_; subst hG_
     refine op_nil ?_
     refine ent_then ?_
     refine cd_seq ?_
     refine cd_draw ([]) [0, 1, 2, 3, 4] [0, 1, 0, 2, 0] mixed_ (by kernel_rfl) ?_
     refine op_y (y_move rfl) rfl ?_
     apply op_lda Calq6.ag_62 rfl rfl
     ·exact rm
     ·(first | ((try simp only [zz, splice, Nat.reduceAdd, Nat.zero_mul, Pk.cs]) <;> rfl) | rfl)
     ·rfl
     refine op_y (y_assign rfl) rfl ?_
     apply op_sta Calq6.sz_62 rfl rfl rfl rfl
     ·exact rm
     ·simp
     ·(first | ((try simp only [zz, splice, Nat.reduceAdd, Nat.zero_mul, Pk.cs]) <;> rfl) | rfl)
     refine op_y (y_assign rfl) rfl ?_
     refine op_nil ?_
     refine ent_then ?_
     refine cd_ret ?_
     refine ent_rets (rs := [_, _, _]) (vs := topV (y :: r)) (.inl rfl) rfl ⟨rfl, ⟨_, rfl, .inr ⟨_, 3, rfl, rfl, rds_all (by exact rm), rfl⟩⟩, rfl, trivial⟩ ⟨_, ⟨rfl, rfl⟩, fun w h => ?_⟩
     refine calG_shut ⟨base, pd, pp, pb, pa, [], W2, A, upd Q (y.rank % 64) qr, D.erase (y.rank % 64), F2, m2⟩ ⟨wi.pop hQ inv2 hmm (.inr ⟨hq, rfl⟩), cir, fun e => by cases e⟩ ?_
     apply Sat.only (h := h)
     exact sx
    ·skip
     refine op_y (y_move rfl) rfl ?_
     refine op_y (y_ext rfl rfl) rfl ?_
     refine op_y (y_ext rfl rfl) rfl ?_
     refine op_y (y_assign rfl) rfl ?_
     refine op_y (y_assign rfl) rfl ?_
     refine op_nil ?_
     refine ent_then ?_
     refine cd_seq ?_
     refine cd_region [0, 0] ?_
     refine op_y (y_move rfl) rfl ?_
     first | refine op_y (y_not (b := true) (r := false) rfl rfl) rfl ?_ | refine op_y (y_not (b := false) (r := true) rfl rfl) rfl ?_ | refine op_y (y_not rfl rfl) rfl ?_
     refine op_nil ?_
     refine ent_then ?_
     refine cd_iff rfl ?_
     refine cd_skip ?_
     refine ent_then ?_
     refine cd_seq ?_
     refine cd_draw ([]) [0, 1, 2, 3, 4] [0, 1, 0, 2, 0] mixed_ (by kernel_rfl) ?_
     refine op_y (y_move rfl) rfl ?_
     apply op_lda Calq6.ag_62 rfl rfl
     ·exact rm
     ·(first | ((try simp only [zz, splice, Nat.reduceAdd, Nat.zero_mul, Pk.cs]) <;> rfl) | rfl)
     ·rfl
     refine op_y (y_assign rfl) rfl ?_
     apply op_sta Calq6.sz_62 rfl rfl rfl rfl
     ·exact rm
     ·simp
     ·(first | ((try simp only [zz, splice, Nat.reduceAdd, Nat.zero_mul, Pk.cs]) <;> rfl) | rfl)
     refine op_y (y_assign rfl) rfl ?_
     refine op_nil ?_
     refine ent_then ?_
     refine cd_ret ?_
     refine ent_rets (rs := [_, _, _]) (vs := topV (y :: r)) (.inl rfl) rfl ⟨rfl, ⟨_, rfl, .inr ⟨_, 3, rfl, rfl, rds_all (by exact rm), rfl⟩⟩, rfl, trivial⟩ ⟨_, ⟨rfl, rfl⟩, fun w h => ?_⟩
     refine calG_shut ⟨base, pd, pp, pb, pa, [], W2, A, upd Q (y.rank % 64) qr, D, F2, m2⟩ ⟨wi.pop hQ inv2 hmm (.inl ⟨by rw [hq]; simp, rfl⟩), cir, fun e => by cases e⟩ ?_
     apply Sat.only (h := h)
     exact sx
end Go.Proofs.YtfkadaodnaaceaaGreatDoor
/- A new pool. -/
namespace Go.Proofs.YtfkadaodnaaceaaGreatDoor
open Go Go.SL
theorem Pool4.fo_409_1 : fieldOff Tryz.prog 409 1 = some 1 := by kernel_rfl
theorem Pool4.pl_409 : placesK Tryz.prog 409 = some [(0, 1), (1, 1), (2, 1), (3, 1), (4, 1)] := by kernel_rfl
theorem Pool4.pl_411 : placesK Tryz.prog 411 = some [(0, 1), (1, 1)] := by kernel_rfl
theorem Pool4.sc_406 : scalarT Tryz.prog 406 = true := by kernel_rfl
theorem Pool4.sl_406 : sliceK Tryz.prog 406 = some (411, 2, 8) := by kernel_rfl
theorem Pool4.sz_411 : sizeK Tryz.prog 411 = some 2 := by kernel_rfl
theorem Pool4.un_406 : Tryz.prog.underlying 406 = some (.slice 411) := by kernel_rfl
theorem Pool4.ze_409 : zeroC Tryz.prog 409 = some [.slice none 0 0, .slice none 0 0, .int .i64 0, .int .i32 0, .int .i64 0] := by kernel_rfl
theorem Pool4.ze_411 : zeroC Tryz.prog 411 = some [.int .i32 0, .int .i32 0] := by kernel_rfl
set_option maxRecDepth 100000
set_option maxHeartbeats 400000
theorem pNew_ct (c : Cx) (room nq : Nat) (h1 : 1 ≤ room) (h2 : room ≤ 4096) (hq : nq ≤ 262144) : Ct Tryz.prog 190 #[.int .i64 room, .int .i64 nq] c []
 fun v L => ∃ p, v = .tuple #[.pointer (some ⟨p, 0, none⟩), .int .i64 0] ∧ L = [poolC p room ⟨[], List.replicate nq ⟨-1, -1⟩, -1, 0⟩] := by
 refine ct_fn (args := [.int .i64 room, .int .i64 nq]) [(0, .int .i64 room), (1, .int .i64 nq)] Tryz.func190 rfl Tryz.ntmps190 rfl ⟨rfl, rfl, trivial⟩ ?_
 refine cd_to (L' := [ownS 471 6 none 0 0 []]) (fun w h => ownS_nil h) ?_
 refine cd_seq ?_
 refine cd_region [0, 0] ?_
 refine op_y (y_assign rfl) rfl ?_
 refine op_y (y_assign rfl) rfl ?_
 refine op_nil ?_
 refine ent_then ?_
 refine cd_seq ?_
 refine cd_seq ?_
 refine cd_region [0, 0, 0, 0, 0, 0, 0, 0, 0, 0, 0, 0, 0, 0] ?_
 refine op_y (y_move rfl) rfl ?_
 first | refine op_y (y_lt rfl rfl (decide_eq_true (by omega))) rfl ?_ | refine op_y (y_lt rfl rfl (decide_eq_false (by omega))) rfl ?_ | refine op_y (y_lt rfl rfl rfl) rfl ?_
 refine op_y (y_move rfl) rfl ?_
 first
  | refine op_s1 rfl rfl ⟨rfl, rfl⟩ ?_
  | refine op_s2 rfl rfl ⟨rfl, rfl⟩ ?_
  | (refine op_g rfl rfl ?_
     refine op_y (y_move rfl) rfl ?_)
 first
  | refine op_s1 rfl rfl ⟨rfl, rfl⟩ ?_
  | refine op_s2 rfl rfl ⟨rfl, rfl⟩ ?_
  | (refine op_g rfl rfl ?_
     first | refine op_y (y_gt rfl rfl (decide_eq_true (by omega))) rfl ?_ | refine op_y (y_gt rfl rfl (decide_eq_false (by omega))) rfl ?_ | refine op_y (y_gt rfl rfl rfl) rfl ?_)
 first | refine op_y (y_pickt rfl rfl) rfl ?_ | refine op_y (y_pickf rfl rfl) rfl ?_ | refine op_y (y_pick rfl rfl rfl) rfl ?_
 refine op_y (y_move rfl) rfl ?_
 first
  | refine op_s1 rfl rfl ⟨rfl, rfl⟩ ?_
  | refine op_s2 rfl rfl ⟨rfl, rfl⟩ ?_
  | (refine op_g rfl rfl ?_
     refine op_y (y_move rfl) rfl ?_)
 first
  | refine op_s1 rfl rfl ⟨rfl, rfl⟩ ?_
  | refine op_s2 rfl rfl ⟨rfl, rfl⟩ ?_
  | (refine op_g rfl rfl ?_
     first | refine op_y (y_lt rfl rfl (decide_eq_true (by omega))) rfl ?_ | refine op_y (y_lt rfl rfl (decide_eq_false (by omega))) rfl ?_ | refine op_y (y_lt rfl rfl rfl) rfl ?_)
 first | refine op_y (y_pickt rfl rfl) rfl ?_ | refine op_y (y_pickf rfl rfl) rfl ?_ | refine op_y (y_pick rfl rfl rfl) rfl ?_
 refine op_y (y_move rfl) rfl ?_
 first
  | refine op_s1 rfl rfl ⟨rfl, rfl⟩ ?_
  | refine op_s2 rfl rfl ⟨rfl, rfl⟩ ?_
  | (refine op_g rfl rfl ?_
     refine op_y (y_move rfl) rfl ?_)
 first
  | refine op_s1 rfl rfl ⟨rfl, rfl⟩ ?_
  | refine op_s2 rfl rfl ⟨rfl, rfl⟩ ?_
  | (refine op_g rfl rfl ?_
     first | refine op_y (y_gt rfl rfl (decide_eq_true (by omega))) rfl ?_ | refine op_y (y_gt rfl rfl (decide_eq_false (by omega))) rfl ?_ | refine op_y (y_gt rfl rfl rfl) rfl ?_)
 first | refine op_y (y_pickt rfl rfl) rfl ?_ | refine op_y (y_pickf rfl rfl) rfl ?_ | refine op_y (y_pick rfl rfl rfl) rfl ?_
 refine op_nil ?_
 refine ent_then ?_
 refine cd_iff rfl ?_
 refine cd_skip ?_
 refine ent_then ?_
 refine cd_seq ?_
 refine cd_region [0, 2, 0, 0, 2, 0] ?_
 refine op_y (y_move rfl) rfl ?_
 apply op_mks (k := nq) Pool4.sl_406 Pool4.ze_411 rfl rfl rfl rfl
 ·first | rfl | omega
 ·decide
 ·omega
 ·omega
 ·omega
 intro b23
 refine op_y (y_move rfl) rfl ?_
 apply op_build Pool4.pl_409 Pool4.ze_409 rfl rfl
 ·(first | ((try simp [fillL, splice, Value.cells, Pk.cs, Pc.cs, Eh.cs]) <;> rfl) | rfl)
 refine op_boxa rfl rfl fun b26 => ?_
 refine op_y (y_assign rfl) rfl ?_
 refine op_nil ?_
 refine ent_then ?_
 refine cd_seq ?_
 refine cd_seq ?_
 refine cd_region [0, 0, 0, 1, 0, 0] ?_
 refine op_y (y_move rfl) rfl ?_
 first | refine op_y (y_nil rfl) rfl ?_ | refine op_y (y_nili rfl) rfl ?_ | refine op_y (y_nilf rfl) rfl ?_
 first | refine op_y (y_fld Pool4.fo_409_1 rfl) rfl ?_ | refine op_y (y_flda Pool4.fo_409_1 rfl) rfl ?_
 apply op_ld Pool4.sc_406 rfl rfl
 ·exact rm
 ·rfl
 refine op_y (y_len Pool4.un_406 rfl) rfl ?_
 refine op_y (y_move rfl) rfl ?_
 refine op_nil ?_
 refine ent_then ?_
 refine cd_block ?_
 rw [flat_rep (enc := Eh.cs) (a := ⟨0, 0⟩) rfl]
 refine cd_loop (α := Nat) (fun k => k ≤ nq) (fun k => nq - k) (fun k => [(6, .pointer (some ⟨b26, 0, none⟩)), (31, .int .i64 nq), (32, .int .i64 k)]) (fun k => [pt b26 409 (pcs none 0 0 b23 nq room (-1) 0), pt b23 411 (flat Eh.cs (List.replicate k ⟨-1, -1⟩ ++ List.replicate (nq - k) ⟨0, 0⟩) ++ []), ownS 471 6 none 0 0 []]) 0 (Nat.zero_le _) ⟨rfl, rfl, rfl, trivial⟩ (fun w h => ?_) ?_
 ·simp only [List.replicate_zero, List.nil_append, Nat.sub_zero, List.append_nil]
  apply Sat.only (h := h)
  exact sx
 intro k hk
 by_cases hlt : k < nq
 ·skip
  have hg : (List.replicate k (⟨-1, -1⟩ : Eh) ++ List.replicate (nq - k) ⟨0, 0⟩)[k]? = some ⟨0, 0⟩ := by
   rw [List.getElem?_append_right (by simp), List.length_replicate, Nat.sub_self, List.getElem?_replicate, if_pos (by omega)]
  have hs : (List.replicate k (⟨-1, -1⟩ : Eh) ++ List.replicate (nq - k) (⟨0, 0⟩ : Eh)).set k ⟨-1, -1⟩ = List.replicate (k + 1) (⟨-1, -1⟩ : Eh) ++ List.replicate (nq - (k + 1)) (⟨0, 0⟩ : Eh) := by
   rw [List.set_append_right _ _ (by simp), List.length_replicate, Nat.sub_self]
   obtain ⟨j, hj⟩ : ∃ j, nq - k = j + 1 := ⟨nq - k - 1, by omega⟩
   rw [hj, List.replicate_succ, List.set_cons_zero, show nq - (k + 1) = j by omega, List.replicate_succ']
   simp
  refine cd_seq ?_
  refine cd_region [0] ?_
  first | refine op_y (y_lt rfl rfl (decide_eq_true (by omega))) rfl ?_ | refine op_y (y_lt rfl rfl (decide_eq_false (by omega))) rfl ?_ | refine op_y (y_lt rfl rfl rfl) rfl ?_
  refine op_nil ?_
  refine ent_then ?_
  refine cd_seq ?_
  refine cd_ift rfl ?_
  refine cd_skip ?_
  refine ent_then ?_
  refine cd_seq ?_
  refine cd_block ?_
  refine cd_seq ?_
  refine cd_region [0, 0] ?_
  refine op_y (y_move rfl) rfl ?_
  refine op_y (y_assign rfl) rfl ?_
  refine op_nil ?_
  refine ent_then ?_
  refine cd_region [0, 0, 0, 1, 0, 0, 0, 2] ?_
  refine op_y (y_move rfl) rfl ?_
  first | refine op_y (y_nil rfl) rfl ?_ | refine op_y (y_nili rfl) rfl ?_ | refine op_y (y_nilf rfl) rfl ?_
  first | refine op_y (y_fld Pool4.fo_409_1 rfl) rfl ?_ | refine op_y (y_flda Pool4.fo_409_1 rfl) rfl ?_
  apply op_ld Pool4.sc_406 rfl rfl
  ·exact rm
  ·rfl
  refine op_y (y_move rfl) rfl ?_
  apply op_build Pool4.pl_411 Pool4.ze_411 rfl rfl
  ·(first | ((try simp [fillL, splice, Value.cells, Pk.cs, Pc.cs, Eh.cs]) <;> rfl) | rfl)
  first | refine op_y (y_ix0 (j := k) Pool4.sl_406 rfl rfl (by omega) (by omega)) rfl ?_ | refine op_y (y_ix (j := k) Pool4.sl_406 rfl rfl (by omega) (by omega)) rfl ?_ | refine op_y (y_ixa (j := k) Pool4.sl_406 rfl rfl (by omega) (by omega)) rfl ?_
  apply op_sta Pool4.sz_411 rfl rfl rfl rfl
  ·exact rm
  ·exact flat_le Eh.cs2 [] (lt_of_get hg)
  ·exact flat_splice Eh.cs2 (⟨-1, -1⟩ : Eh) [] (lt_of_get hg)
  refine op_nil ?_
  refine ent_block ?_
  refine ent_then ?_
  refine cd_region [0, 0] ?_
  first | refine op_y (y_add rfl rfl (wi64 (by omega) (by omega))) rfl ?_ | refine op_y (y_add rfl rfl rfl) rfl ?_
  refine op_y (y_move rfl) rfl ?_
  refine op_nil ?_
  refine ent_back (k + 1) hlt (by omega) ⟨rfl, rfl, rfl, trivial⟩ (fun w h => ?_)
  rw [hs] at h
  apply Sat.only (h := h)
  exact sx
 ·skip
  have hkn : k = nq := by omega
  subst hkn
  refine cd_seq ?_
  refine cd_region [0] ?_
  first | refine op_y (y_lt rfl rfl (decide_eq_true (by omega))) rfl ?_ | refine op_y (y_lt rfl rfl (decide_eq_false (by omega))) rfl ?_ | refine op_y (y_lt rfl rfl rfl) rfl ?_
  refine op_nil ?_
  refine ent_then ?_
  refine cd_seq ?_
  refine cd_iff rfl ?_
  refine cd_exit ?_
  refine ent_thn_exit ?_
  refine ent_then_exit ?_
  refine ent_block_exit ?_
  refine ent_then ?_
  refine cd_seq ?_
  refine cd_region [0, 0, 0] ?_
  refine op_y (y_move rfl) rfl ?_
  refine op_y (y_assign rfl) rfl ?_
  refine op_y (y_assign rfl) rfl ?_
  refine op_nil ?_
  refine ent_then ?_
  refine cd_ret ?_
  refine ent_ret2 rfl rfl rfl ⟨_, ⟨b26, rfl, rfl⟩, fun w h => ?_⟩
  refine poolC_shut (m := ⟨[], List.replicate k ⟨-1, -1⟩, -1, 0⟩) (A := none) (cap := 0) (b2 := b23) ?_
  simp only [Nat.sub_self, List.replicate_zero, List.append_nil] at h
  simp only [List.length_replicate, List.length_nil, List.append_nil, show flat Pc.cs [] = [] from rfl]
  rw [show (((0 : Nat) : Int)) = 0 from rfl]
  apply Sat.only (h := h)
  exact sx
end Go.Proofs.YtfkadaodnaaceaaGreatDoor
/- A new calendar, of one level. -/
namespace Go.Proofs.YtfkadaodnaaceaaGreatDoor
open Go Go.SL
theorem Calq7.ca_147 : callable Tryz.prog 147 = true := by kernel_rfl
theorem Calq7.ca_189 : callable Tryz.prog 189 = true := by kernel_rfl
theorem Calq7.ca_190 : callable Tryz.prog 190 = true := by kernel_rfl
theorem Calq7.ca_191 : callable Tryz.prog 191 = true := by kernel_rfl
theorem Calq7.pl_361 : placesK Tryz.prog 361 = some [(0, 1), (1, 1), (2, 1), (3, 1), (4, 1), (5, 1)] := by kernel_rfl
theorem Calq7.ze_361 : zeroC Tryz.prog 361 = some [.pointer none, .pointer none, .int .u64 0, .pointer none, .pointer none, .int .i64 0] := by kernel_rfl
set_option maxRecDepth 100000
set_option maxHeartbeats 400000
theorem cNew_ct (c : Cx) (room : Nat) (h1 : 1 ≤ room) (h2 : room ≤ 4096) : Ct Tryz.prog 148 #[.int .i64 room, .int .i64 1] c []
 fun v L => ∃ p, v = .tuple #[.pointer (some ⟨p, 0, none⟩), .int .i64 0] ∧ L = [calG p [] room 0 false] := by
 refine ct_fn (args := [.int .i64 room, .int .i64 1]) [(0, .int .i64 room), (1, .int .i64 1)] Tryz.func148 rfl Tryz.ntmps148 rfl ⟨rfl, rfl, trivial⟩ ?_
 refine cd_seq ?_
 refine cd_region [0, 0] ?_
 refine op_y (y_assign rfl) rfl ?_
 refine op_y (y_assign rfl) rfl ?_
 refine op_nil ?_
 refine ent_then ?_
 refine cd_seq ?_
 refine cd_region [0, 2, 0, 0, 0, 0, 0] ?_
 refine op_y (y_move rfl) rfl ?_
 apply op_c Calq7.ca_147 rfl rfl (fun e he_ => hNew_ct e room h1 h2)
 ·exact sx
 rintro _ _ ⟨pb, rfl, rfl⟩ G_ hG_
 simp only [zn] at hG_; subst hG_
 refine op_y (y_move rfl) rfl ?_
 refine op_y (y_ext rfl rfl) rfl ?_
 refine op_y (y_ext rfl rfl) rfl ?_
 refine op_y (y_assign rfl) rfl ?_
 refine op_y (y_assign rfl) rfl ?_
 refine op_nil ?_
 refine ent_then ?_
 refine cd_seq ?_
 refine cd_seq ?_
 refine cd_region [0, 0] ?_
 refine op_y (y_move rfl) rfl ?_
 first | refine op_y (y_ne rfl rfl (neT (by omega))) rfl ?_ | refine op_y (y_ne rfl rfl (neF (by omega))) rfl ?_ | refine op_y (y_ne rfl rfl rfl) rfl ?_
 refine op_nil ?_
 refine ent_then ?_
 refine cd_iff rfl ?_
 refine cd_skip ?_
 refine ent_then ?_
 refine cd_seq ?_
 refine cd_region [0, 2, 0, 0, 0, 0, 0] ?_
 refine op_y (y_move rfl) rfl ?_
 apply op_c Calq7.ca_189 rfl rfl (fun e he_ => fNew_ct e)
 ·exact sx
 rintro _ _ ⟨pd, rfl, rfl⟩ G_ hG_
 simp only [zn] at hG_; subst hG_
 refine op_y (y_move rfl) rfl ?_
 refine op_y (y_ext rfl rfl) rfl ?_
 refine op_y (y_ext rfl rfl) rfl ?_
 refine op_y (y_assign rfl) rfl ?_
 refine op_y (y_assign rfl) rfl ?_
 refine op_nil ?_
 refine ent_then ?_
 refine cd_seq ?_
 refine cd_seq ?_
 refine cd_region [0, 0] ?_
 refine op_y (y_move rfl) rfl ?_
 first | refine op_y (y_ne rfl rfl (neT (by omega))) rfl ?_ | refine op_y (y_ne rfl rfl (neF (by omega))) rfl ?_ | refine op_y (y_ne rfl rfl rfl) rfl ?_
 refine op_nil ?_
 refine ent_then ?_
 refine cd_iff rfl ?_
 refine cd_skip ?_
 refine ent_then ?_
 refine cd_seq ?_
 refine cd_region [0, 2, 0, 0, 0, 0, 0] ?_
 refine op_y (y_move rfl) rfl ?_
 apply op_c Calq7.ca_147 rfl rfl (fun e he_ => hNew_ct e room h1 h2)
 ·exact sx
 rintro _ _ ⟨pa, rfl, rfl⟩ G_ hG_
 simp only [zn] at hG_; subst hG_
 refine op_y (y_move rfl) rfl ?_
 refine op_y (y_ext rfl rfl) rfl ?_
 refine op_y (y_ext rfl rfl) rfl ?_
 refine op_y (y_assign rfl) rfl ?_
 refine op_y (y_assign rfl) rfl ?_
 refine op_nil ?_
 refine ent_then ?_
 refine cd_seq ?_
 refine cd_region [0, 0, 2, 2, 0, 0, 0, 0, 0] ?_
 refine op_y (y_move rfl) rfl ?_
 refine op_y (y_move rfl) rfl ?_
 apply op_c Calq7.ca_191 rfl rfl (fun e he_ => fSize_ct e pd [])
 ·exact sx
 rintro _ _ ⟨rfl, rfl⟩ G_ hG_
 simp only [zn] at hG_; subst hG_
 apply op_c Calq7.ca_190 rfl rfl (fun e he_ => pNew_ct e room 64 h1 h2 (by decide))
 ·exact sx
 rintro _ _ ⟨pp, rfl, rfl⟩ G_ hG_
 simp only [zn] at hG_; subst hG_
 refine op_y (y_move rfl) rfl ?_
 refine op_y (y_ext rfl rfl) rfl ?_
 refine op_y (y_ext rfl rfl) rfl ?_
 refine op_y (y_assign rfl) rfl ?_
 refine op_y (y_assign rfl) rfl ?_
 refine op_nil ?_
 refine ent_then ?_
 refine cd_seq ?_
 refine cd_region [0, 0, 0, 0, 0, 0, 2, 0, 0] ?_
 refine op_y (y_move rfl) rfl ?_
 refine op_y (y_move rfl) rfl ?_
 refine op_y (y_move rfl) rfl ?_
 refine op_y (y_move rfl) rfl ?_
 refine op_y (y_move rfl) rfl ?_
 apply op_build Calq7.pl_361 Calq7.ze_361 rfl rfl
 ·(first | ((try simp [fillL, splice, Value.cells, Pk.cs]) <;> rfl) | rfl)
 refine op_boxa rfl rfl fun b47 => ?_
 refine op_y (y_assign rfl) rfl ?_
 refine op_y (y_assign rfl) rfl ?_
 refine op_nil ?_
 refine ent_then ?_
 refine cd_ret ?_
 refine ent_ret2 rfl rfl rfl ⟨_, ⟨b47, rfl, rfl⟩, fun w h => ?_⟩
 refine calG_shut ⟨0, pd, pp, pb, pa, [], ⟨[], [], fun _ => [], [], [], ⟨[], List.replicate 64 ⟨-1, -1⟩, -1, 0⟩⟩⟩ ⟨WI.nil, ⟨rfl, List.Pairwise.nil, (fun _ h => by cases h), (fun _ h => by cases h), (fun _ h => by cases h), (fun _ h => by cases h), Nat.zero_le _, (by decide : 0 < 18446744073709551616)⟩, fun e => by cases e⟩ ?_
 show Sat [pt b47 361 [.pointer (some ⟨pd, 0, none⟩), .pointer (some ⟨pp, 0, none⟩), .int .u64 0, .pointer (some ⟨pb, 0, none⟩), .pointer (some ⟨pa, 0, none⟩), .int .i64 room], setI pd [], poolC pp room ⟨[], List.replicate 64 ⟨-1, -1⟩, -1, 0⟩, heapI pb [] room 0, heapI pa [] room 0] c w
 apply Sat.only (h := h)
 exact sx
end Go.Proofs.YtfkadaodnaaceaaGreatDoor
/- What waits, in a heap or in a calendar. -/
namespace Go.Proofs.YtfkadaodnaaceaaGreatDoor
open Go Go.SL
theorem Back.ag_62 : aggK Tryz.prog 62 = some 3 := by kernel_rfl
theorem Back.ca_274 : callable Tryz.prog 274 = true := by kernel_rfl
theorem Back.ca_275 : callable Tryz.prog 275 = true := by kernel_rfl
theorem Back.ca_276 : callable Tryz.prog 276 = true := by kernel_rfl
theorem Back.ca_285 : callable Tryz.prog 285 = true := by kernel_rfl
theorem Back.ca_286 : callable Tryz.prog 286 = true := by kernel_rfl
theorem Back.ca_287 : callable Tryz.prog 287 = true := by kernel_rfl
theorem Back.fo_288_0 : fieldOff Tryz.prog 288 0 = some 0 := by kernel_rfl
theorem Back.fo_293_0 : fieldOff Tryz.prog 293 0 = some 0 := by kernel_rfl
theorem Back.iv_288_271_0 (x : Value) (w : World) : (invoke (.fn (.method "pacemaker/shaper.peek") #[]) #[.iface 288 x]).run Tryz.prog w = .ok (.enter 271 #[x]) w := by kernel_rfl
theorem Back.iv_288_272_0 (x : Value) (w : World) : (invoke (.fn (.method "pacemaker/shaper.pop") #[]) #[.iface 288 x]).run Tryz.prog w = .ok (.enter 272 #[x]) w := by kernel_rfl
theorem Back.iv_293_282_0 (x : Value) (w : World) : (invoke (.fn (.method "pacemaker/shaper.peek") #[]) #[.iface 293 x]).run Tryz.prog w = .ok (.enter 282 #[x]) w := by kernel_rfl
theorem Back.iv_293_283_0 (x : Value) (w : World) : (invoke (.fn (.method "pacemaker/shaper.pop") #[]) #[.iface 293 x]).run Tryz.prog w = .ok (.enter 283 #[x]) w := by kernel_rfl
theorem Back.sc_284 : scalarT Tryz.prog 284 = true := by kernel_rfl
theorem Back.sc_289 : scalarT Tryz.prog 289 = true := by kernel_rfl
theorem Back.sz_62 : sizeK Tryz.prog 62 = some 3 := by kernel_rfl
theorem Back.ze_62 : zeroC Tryz.prog 62 = some [.int .u32 0, .int .u32 0, .int .u64 0] := by kernel_rfl
set_option maxRecDepth 100000
set_option maxHeartbeats 400000
def back (cal : Bool) (p : Nat) (I : List It) (k : Nat) : As := if cal then calG p I 9 k false else heapI p I 9 k
def backT (cal : Bool) : Nat := if cal then 293 else 288
theorem back_t (p : Nat) (I : List It) (k : Nat) : back true p I k = calG p I 9 k false := rfl
theorem back_f (p : Nat) (I : List It) (k : Nat) : back false p I k = heapI p I 9 k := rfl
theorem hpush_ct (c : Cx) (p k : Nat) (I : List It) (x : It) (hI : I.length < 9) (hk : k < 18446744073709551615) : Ct Tryz.prog 273 #[.agg [Value.pointer (some ⟨p, 0, none⟩)].toArray, .int .u64 x.rank, .agg (Pk.cs x.pk).toArray] c [back false p I k, tabA]
 fun v L => v = .tuple #[] ∧ L = [back false p (insI x I) (k + 1), tabA] := by
 rw [back_f, back_f]
 refine ct_fn (args := [.agg [Value.pointer (some ⟨p, 0, none⟩)].toArray, .int .u64 x.rank, .agg (Pk.cs x.pk).toArray]) [(0, .agg [Value.pointer (some ⟨p, 0, none⟩)].toArray), (1, .int .u64 x.rank), (2, .agg (Pk.cs x.pk).toArray)] Tryz.func273 rfl Tryz.ntmps273 rfl ⟨rfl, rfl, rfl, trivial⟩ ?_
 refine cd_seq ?_
 refine cd_region [2, 2] ?_
 refine op_boxa rfl rfl fun b3 => ?_
 refine op_boxa rfl rfl fun b5 => ?_
 refine op_nil ?_
 refine ent_then ?_
 refine cd_region [0, 1, 0, 1, 2] ?_
 first | refine op_y (y_fld0 Back.fo_288_0 rfl) rfl ?_ | refine op_y (y_flda Back.fo_288_0 rfl) rfl ?_
 apply op_ld Back.sc_284 rfl rfl
 ·exact rm
 ·rfl
 refine op_y (y_move rfl) rfl ?_
 apply op_lda Back.ag_62 rfl rfl
 ·exact rm
 ·(first | ((try simp only [zz, splice, Nat.reduceAdd, Nat.zero_mul, Pk.cs]) <;> rfl) | rfl)
 ·rfl
 apply op_c Back.ca_276 rfl rfl (fun e he_ => hPush_ct e p 9 k I x (by omega) hk)
 ·exact sx
 rintro v _ (⟨h, _, _⟩ | ⟨_, rfl, rfl⟩) G_ hG_
 ·omega
 ·simp only [zn] at hG_; subst hG_
  refine op_nil ?_
  refine ent_end0 (.inl rfl) rfl ⟨_, ⟨rfl, rfl⟩, fun w h => ?_⟩
  apply Sat.only (h := h)
  exact sx
theorem hpeek_ct (c : Cx) (p k : Nat) (I : List It) : Ct Tryz.prog 271 #[.agg [Value.pointer (some ⟨p, 0, none⟩)].toArray] c [back false p I k, tabA]
 fun v L => v = tup (topV I) ∧ L = [back false p I k, tabA] := by
 rw [back_f]
 refine ct_fn (args := [.agg [Value.pointer (some ⟨p, 0, none⟩)].toArray]) [(0, .agg [Value.pointer (some ⟨p, 0, none⟩)].toArray)] Tryz.func271 rfl Tryz.ntmps271 rfl ⟨rfl, trivial⟩ ?_
 refine cd_seq ?_
 refine cd_region [2, 0, 2, 0] ?_
 refine op_boxa rfl rfl fun b1 => ?_
 refine op_y (y_assign rfl) rfl ?_
 refine op_alloc Back.ze_62 rfl fun b3 => ?_
 refine op_y (y_assign rfl) rfl ?_
 refine op_nil ?_
 refine ent_then ?_
 refine cd_seq ?_
 refine cd_region [0, 1, 2, 0, 0, 0, 0, 2, 0] ?_
 first | refine op_y (y_fld0 Back.fo_288_0 rfl) rfl ?_ | refine op_y (y_flda Back.fo_288_0 rfl) rfl ?_
 apply op_ld Back.sc_284 rfl rfl
 ·exact rm
 ·rfl
 apply op_c Back.ca_274 rfl rfl (fun e he_ => hPeek_ct e p 9 k I)
 ·exact sx
 rintro _ _ ⟨rfl, rfl⟩ G_ hG_
 simp only [zn] at hG_; subst hG_
 cases I with
 | nil =>
  skip
  refine op_y (y_ext rfl rfl) rfl ?_
  refine op_y (y_ext rfl rfl) rfl ?_
  refine op_y (y_ext rfl rfl) rfl ?_
  refine op_y (y_assign rfl) rfl ?_
  apply op_sta Back.sz_62 rfl rfl rfl rfl
  ·exact rm
  ·simp
  ·(first | ((try simp only [zz, splice, Nat.reduceAdd, Nat.zero_mul, Pk.cs]) <;> rfl) | rfl)
  refine op_y (y_assign rfl) rfl ?_
  refine op_nil ?_
  refine ent_then ?_
  refine cd_ret ?_
  refine ent_rets (rs := [_, _, _]) (vs := topV []) (.inl rfl) rfl ⟨rfl, ⟨_, rfl, .inr ⟨_, 3, rfl, rfl, rds_all (by exact rm), rfl⟩⟩, rfl, trivial⟩ ⟨_, ⟨rfl, rfl⟩, fun w h => ?_⟩
  apply Sat.only (h := h)
  exact sx
 | cons y r =>
  skip
  refine op_y (y_ext rfl rfl) rfl ?_
  refine op_y (y_ext rfl rfl) rfl ?_
  refine op_y (y_ext rfl rfl) rfl ?_
  refine op_y (y_assign rfl) rfl ?_
  apply op_sta Back.sz_62 rfl rfl rfl rfl
  ·exact rm
  ·simp
  ·(first | ((try simp only [zz, splice, Nat.reduceAdd, Nat.zero_mul, Pk.cs]) <;> rfl) | rfl)
  refine op_y (y_assign rfl) rfl ?_
  refine op_nil ?_
  refine ent_then ?_
  refine cd_ret ?_
  refine ent_rets (rs := [_, _, _]) (vs := topV (y :: r)) (.inl rfl) rfl ⟨rfl, ⟨_, rfl, .inr ⟨_, 3, rfl, rfl, rds_all (by exact rm), rfl⟩⟩, rfl, trivial⟩ ⟨_, ⟨rfl, rfl⟩, fun w h => ?_⟩
  apply Sat.only (h := h)
  exact sx
theorem hpop_ct (c : Cx) (p k : Nat) (I : List It) (hI : I.length ≤ 9) : Ct Tryz.prog 272 #[.agg [Value.pointer (some ⟨p, 0, none⟩)].toArray] c [back false p I k, tabA]
 fun v L => v = .tuple #[] ∧ L = [back false p I.tail k, tabA] := by
 rw [back_f, back_f]
 refine ct_fn (args := [.agg [Value.pointer (some ⟨p, 0, none⟩)].toArray]) [(0, .agg [Value.pointer (some ⟨p, 0, none⟩)].toArray)] Tryz.func272 rfl Tryz.ntmps272 rfl ⟨rfl, trivial⟩ ?_
 refine cd_seq ?_
 refine cd_region [2] ?_
 refine op_boxa rfl rfl fun b1 => ?_
 refine op_nil ?_
 refine ent_then ?_
 refine cd_region [0, 1, 2] ?_
 first | refine op_y (y_fld0 Back.fo_288_0 rfl) rfl ?_ | refine op_y (y_flda Back.fo_288_0 rfl) rfl ?_
 apply op_ld Back.sc_284 rfl rfl
 ·exact rm
 ·rfl
 apply op_c Back.ca_275 rfl rfl (fun e he_ => hPop_ct e p 9 k I (by omega))
 ·exact sx
 rintro _ _ ⟨rfl, rfl⟩ G_ hG_
 simp only [zn] at hG_; subst hG_
 refine op_nil ?_
 refine ent_end0 (.inl rfl) rfl ⟨_, ⟨rfl, rfl⟩, fun w h => ?_⟩
 apply Sat.only (h := h)
 exact sx
theorem cpush_ct (c : Cx) (p k : Nat) (I : List It) (x : It) (hI : I.length < 9) (hk : k < 18446744073709551615) (hx : x.rank < 18446744073709551616) : Ct Tryz.prog 284 #[.agg [Value.pointer (some ⟨p, 0, none⟩)].toArray, .int .u64 x.rank, .agg (Pk.cs x.pk).toArray] c [back true p I k, tabA]
 fun v L => v = .tuple #[] ∧ L = [back true p (insI x I) (k + 1), tabA] := by
 rw [back_t, back_t]
 refine ct_fn (args := [.agg [Value.pointer (some ⟨p, 0, none⟩)].toArray, .int .u64 x.rank, .agg (Pk.cs x.pk).toArray]) [(0, .agg [Value.pointer (some ⟨p, 0, none⟩)].toArray), (1, .int .u64 x.rank), (2, .agg (Pk.cs x.pk).toArray)] Tryz.func284 rfl Tryz.ntmps284 rfl ⟨rfl, rfl, rfl, trivial⟩ ?_
 refine cd_seq ?_
 refine cd_region [2, 2] ?_
 refine op_boxa rfl rfl fun b3 => ?_
 refine op_boxa rfl rfl fun b5 => ?_
 refine op_nil ?_
 refine ent_then ?_
 refine cd_region [0, 1, 0, 1, 2] ?_
 first | refine op_y (y_fld0 Back.fo_293_0 rfl) rfl ?_ | refine op_y (y_flda Back.fo_293_0 rfl) rfl ?_
 apply op_ld Back.sc_289 rfl rfl
 ·exact rm
 ·rfl
 refine op_y (y_move rfl) rfl ?_
 apply op_lda Back.ag_62 rfl rfl
 ·exact rm
 ·(first | ((try simp only [zz, splice, Nat.reduceAdd, Nat.zero_mul, Pk.cs]) <;> rfl) | rfl)
 ·rfl
 apply op_c Back.ca_287 rfl rfl (fun e he_ => cPush_ct e p 9 k I x (by decide) hk hx)
 ·exact sx
 rintro v _ (⟨h, _, _⟩ | ⟨_, rfl, rfl⟩) G_ hG_
 ·omega
 ·simp only [zn] at hG_; subst hG_
  refine op_nil ?_
  refine ent_end0 (.inl rfl) rfl ⟨_, ⟨rfl, rfl⟩, fun w h => ?_⟩
  apply Sat.only (h := h)
  exact sx
theorem calG_f {p room k : Nat} {b : Bool} {I : List It} {M : List As} {c : Cx} {w : World} (h : Sat (calG p I room k b :: M) c w) : Sat (calG p I room k false :: M) c w := by
 obtain ⟨s, hs, h⟩ := calG_open w h
 exact calG_shut s ⟨hs.wi, hs.ci, fun e => by cases e⟩ h
theorem cpeek_ct (c : Cx) (p k : Nat) (I : List It) : Ct Tryz.prog 282 #[.agg [Value.pointer (some ⟨p, 0, none⟩)].toArray] c [back true p I k, tabA]
 fun v L => v = tup (topV I) ∧ L = [back true p I k, tabA] := by
 rw [back_t]
 refine ct_fn (args := [.agg [Value.pointer (some ⟨p, 0, none⟩)].toArray]) [(0, .agg [Value.pointer (some ⟨p, 0, none⟩)].toArray)] Tryz.func282 rfl Tryz.ntmps282 rfl ⟨rfl, trivial⟩ ?_
 refine cd_seq ?_
 refine cd_region [2, 0, 2, 0] ?_
 refine op_boxa rfl rfl fun b1 => ?_
 refine op_y (y_assign rfl) rfl ?_
 refine op_alloc Back.ze_62 rfl fun b3 => ?_
 refine op_y (y_assign rfl) rfl ?_
 refine op_nil ?_
 refine ent_then ?_
 refine cd_seq ?_
 refine cd_region [0, 1, 2, 0, 0, 0, 0, 2, 0] ?_
 first | refine op_y (y_fld0 Back.fo_293_0 rfl) rfl ?_ | refine op_y (y_flda Back.fo_293_0 rfl) rfl ?_
 apply op_ld Back.sc_289 rfl rfl
 ·exact rm
 ·rfl
 apply op_c Back.ca_285 rfl rfl (fun e he_ => cPeek_ct e p 9 k I (by decide))
 ·exact sx
 rintro _ _ ⟨rfl, rfl⟩ G_ hG_
 simp only [zn] at hG_; subst hG_
 cases I with
 | nil =>
  skip
  refine op_y (y_ext rfl rfl) rfl ?_
  refine op_y (y_ext rfl rfl) rfl ?_
  refine op_y (y_ext rfl rfl) rfl ?_
  refine op_y (y_assign rfl) rfl ?_
  apply op_sta Back.sz_62 rfl rfl rfl rfl
  ·exact rm
  ·simp
  ·(first | ((try simp only [zz, splice, Nat.reduceAdd, Nat.zero_mul, Pk.cs]) <;> rfl) | rfl)
  refine op_y (y_assign rfl) rfl ?_
  refine op_nil ?_
  refine ent_then ?_
  refine cd_ret ?_
  refine ent_rets (rs := [_, _, _]) (vs := topV []) (.inl rfl) rfl ⟨rfl, ⟨_, rfl, .inr ⟨_, 3, rfl, rfl, rds_all (by exact rm), rfl⟩⟩, rfl, trivial⟩ ⟨_, ⟨rfl, rfl⟩, fun w h => calG_f (b := decide (([] : List It) ≠ [])) ?_⟩
  apply Sat.only (h := h)
  exact sx
 | cons y r =>
  skip
  refine op_y (y_ext rfl rfl) rfl ?_
  refine op_y (y_ext rfl rfl) rfl ?_
  refine op_y (y_ext rfl rfl) rfl ?_
  refine op_y (y_assign rfl) rfl ?_
  apply op_sta Back.sz_62 rfl rfl rfl rfl
  ·exact rm
  ·simp
  ·(first | ((try simp only [zz, splice, Nat.reduceAdd, Nat.zero_mul, Pk.cs]) <;> rfl) | rfl)
  refine op_y (y_assign rfl) rfl ?_
  refine op_nil ?_
  refine ent_then ?_
  refine cd_ret ?_
  refine ent_rets (rs := [_, _, _]) (vs := topV (y :: r)) (.inl rfl) rfl ⟨rfl, ⟨_, rfl, .inr ⟨_, 3, rfl, rfl, rds_all (by exact rm), rfl⟩⟩, rfl, trivial⟩ ⟨_, ⟨rfl, rfl⟩, fun w h => calG_f (b := decide (y :: r ≠ [])) ?_⟩
  apply Sat.only (h := h)
  exact sx
theorem cpop_ct (c : Cx) (p k : Nat) (I : List It) : Ct Tryz.prog 283 #[.agg [Value.pointer (some ⟨p, 0, none⟩)].toArray] c [back true p I k, tabA]
 fun v L => v = .tuple #[] ∧ L = [back true p I.tail k, tabA] := by
 rw [back_t, back_t]
 refine ct_fn (args := [.agg [Value.pointer (some ⟨p, 0, none⟩)].toArray]) [(0, .agg [Value.pointer (some ⟨p, 0, none⟩)].toArray)] Tryz.func283 rfl Tryz.ntmps283 rfl ⟨rfl, trivial⟩ ?_
 refine cd_seq ?_
 refine cd_region [2] ?_
 refine op_boxa rfl rfl fun b1 => ?_
 refine op_nil ?_
 refine ent_then ?_
 refine cd_region [0, 1, 2] ?_
 first | refine op_y (y_fld0 Back.fo_293_0 rfl) rfl ?_ | refine op_y (y_flda Back.fo_293_0 rfl) rfl ?_
 apply op_ld Back.sc_289 rfl rfl
 ·exact rm
 ·rfl
 apply op_c Back.ca_286 rfl rfl (fun e he_ => cPop_ct e p 9 k I (by decide))
 ·exact sx
 rintro _ _ ⟨rfl, rfl⟩ G_ hG_
 simp only [zn] at hG_; subst hG_
 refine op_nil ?_
 refine ent_end0 (.inl rfl) rfl ⟨_, ⟨rfl, rfl⟩, fun w h => ?_⟩
 apply Sat.only (h := h)
 exact sx
def peekF (cal : Bool) : Nat := if cal then 282 else 271
def popF (cal : Bool) : Nat := if cal then 283 else 272
theorem peek_inv (cal : Bool) (x : Value) (w : World) : (invoke (.fn (.method "pacemaker/shaper.peek") #[]) #[.iface (backT cal) x]).run Tryz.prog w = .ok (.enter (peekF cal) #[x]) w := by
 cases cal
 ·exact Back.iv_288_271_0 x w
 ·exact Back.iv_293_282_0 x w
theorem pop_inv (cal : Bool) (x : Value) (w : World) : (invoke (.fn (.method "pacemaker/shaper.pop") #[]) #[.iface (backT cal) x]).run Tryz.prog w = .ok (.enter (popF cal) #[x]) w := by
 cases cal
 ·exact Back.iv_288_272_0 x w
 ·exact Back.iv_293_283_0 x w
theorem bpeek_ct (c : Cx) (cal : Bool) (p k : Nat) (I : List It) : Ct Tryz.prog (peekF cal) #[.agg [Value.pointer (some ⟨p, 0, none⟩)].toArray] c [back cal p I k, tabA]
 fun v L => v = tup (topV I) ∧ L = [back cal p I k, tabA] := by
 cases cal
 ·exact hpeek_ct c p k I
 ·exact cpeek_ct c p k I
theorem bpop_ct (c : Cx) (cal : Bool) (p k : Nat) (I : List It) (hI : I.length ≤ 9) : Ct Tryz.prog (popF cal) #[.agg [Value.pointer (some ⟨p, 0, none⟩)].toArray] c [back cal p I k, tabA]
 fun v L => v = .tuple #[] ∧ L = [back cal p I.tail k, tabA] := by
 cases cal
 ·exact hpop_ct c p k I hI
 ·exact cpop_ct c p k I
end Go.Proofs.YtfkadaodnaaceaaGreatDoor
/- The bucket of tokens. -/
namespace Go.Proofs.YtfkadaodnaaceaaGreatDoor
open Go Go.SL
theorem Bucket.ag_210 : aggK Tryz.prog 210 = some 3 := by kernel_rfl
theorem Bucket.ca_154 : callable Tryz.prog 154 = true := by kernel_rfl
theorem Bucket.ca_171 : callable Tryz.prog 171 = true := by kernel_rfl
theorem Bucket.fo_210_0 : fieldOff Tryz.prog 210 0 = some 0 := by kernel_rfl
theorem Bucket.fo_210_1 : fieldOff Tryz.prog 210 1 = some 1 := by kernel_rfl
theorem Bucket.fo_210_2 : fieldOff Tryz.prog 210 2 = some 2 := by kernel_rfl
theorem Bucket.sc_22 : scalarT Tryz.prog 22 = true := by kernel_rfl
theorem Bucket.sz_22 : sizeK Tryz.prog 22 = some 1 := by kernel_rfl
theorem Bucket.sz_210 : sizeK Tryz.prog 210 = some 3 := by kernel_rfl
theorem Bucket.ze_210 : zeroC Tryz.prog 210 = some [.int .u64 0, .int .u64 0, .int .u64 0] := by kernel_rfl
set_option maxRecDepth 100000
set_option maxHeartbeats 400000
structure Bk where
 rate : Nat
 burst : Nat
 tok : Nat
 deriving DecidableEq, Inhabited
abbrev Bk.cs (b : Bk) : List Value := [.int .u64 b.rate, .int .u64 b.burst, .int .u64 b.tok]
structure Bk.ok (b : Bk) : Prop where
 r0 : 0 < b.rate
 b0 : 0 < b.burst
 tl : b.tok ≤ b.burst
 rl : b.rate < 18446744073709551616
 bl : b.burst < 18446744073709551616
theorem bCheck_ct (c : Cx) (b : Bk) (hb : b.ok) : Ct Tryz.prog 154 #[.agg (Bk.cs b).toArray] c [] fun v L => v = .int .i64 0 ∧ L = [] := by
 obtain ⟨r0, b0, tl, rl, bl⟩ := hb
 refine ct_fn (args := [.agg (Bk.cs b).toArray]) [(0, .agg (Bk.cs b).toArray)] Tryz.func154 rfl Tryz.ntmps154 rfl ⟨rfl, trivial⟩ ?_
 refine cd_seq ?_
 refine cd_region [2, 0] ?_
 refine op_boxa rfl rfl fun b1 => ?_
 refine op_y (y_assign rfl) rfl ?_
 refine op_nil ?_
 refine ent_then ?_
 refine cd_seq ?_
 refine cd_block ?_
 refine cd_seq ?_
 refine cd_region [0, 1, 0, 0] ?_
 first | refine op_y (y_fld0 Bucket.fo_210_0 rfl) rfl ?_ | refine op_y (y_flda Bucket.fo_210_0 rfl) rfl ?_
 apply op_ld Bucket.sc_22 rfl rfl
 ·exact rm
 ·rfl
 first | refine op_y (y_eq rfl rfl (eqT (by omega))) rfl ?_ | refine op_y (y_eq rfl rfl (eqF (by omega))) rfl ?_ | refine op_y (y_eq rfl rfl rfl) rfl ?_
 refine op_y (y_assign rfl) rfl ?_
 refine op_nil ?_
 refine ent_then ?_
 refine cd_iff rfl ?_
 refine cd_seq ?_
 refine cd_region [0, 1, 0, 0, 0, 1, 0, 1, 0, 0, 0] ?_
 first | refine op_y (y_fld Bucket.fo_210_1 rfl) rfl ?_ | refine op_y (y_flda Bucket.fo_210_1 rfl) rfl ?_
 apply op_ld Bucket.sc_22 rfl rfl
 ·exact rm
 ·rfl
 first | refine op_y (y_eq rfl rfl (eqT (by omega))) rfl ?_ | refine op_y (y_eq rfl rfl (eqF (by omega))) rfl ?_ | refine op_y (y_eq rfl rfl rfl) rfl ?_
 refine op_y (y_move rfl) rfl ?_
 first
  | refine op_s1 rfl rfl ⟨rfl, rfl⟩ ?_
  | refine op_s2 rfl rfl ⟨rfl, rfl⟩ ?_
  | (refine op_g rfl rfl ?_
     first | refine op_y (y_fld Bucket.fo_210_2 rfl) rfl ?_ | refine op_y (y_flda Bucket.fo_210_2 rfl) rfl ?_)
 first
  | refine op_s1 rfl rfl ⟨rfl, rfl⟩ ?_
  | refine op_s2 rfl rfl ⟨rfl, rfl⟩ ?_
  | (refine op_g rfl rfl ?_
     apply op_ld Bucket.sc_22 rfl rfl
     ·exact rm
     ·rfl)
 first
  | refine op_s1 rfl rfl ⟨rfl, rfl⟩ ?_
  | refine op_s2 rfl rfl ⟨rfl, rfl⟩ ?_
  | (refine op_g rfl rfl ?_
     first | refine op_y (y_fld Bucket.fo_210_1 rfl) rfl ?_ | refine op_y (y_flda Bucket.fo_210_1 rfl) rfl ?_)
 first
  | refine op_s1 rfl rfl ⟨rfl, rfl⟩ ?_
  | refine op_s2 rfl rfl ⟨rfl, rfl⟩ ?_
  | (refine op_g rfl rfl ?_
     apply op_ld Bucket.sc_22 rfl rfl
     ·exact rm
     ·rfl)
 first
  | refine op_s1 rfl rfl ⟨rfl, rfl⟩ ?_
  | refine op_s2 rfl rfl ⟨rfl, rfl⟩ ?_
  | (refine op_g rfl rfl ?_
     first | refine op_y (y_gt rfl rfl (decide_eq_true (by omega))) rfl ?_ | refine op_y (y_gt rfl rfl (decide_eq_false (by omega))) rfl ?_ | refine op_y (y_gt rfl rfl rfl) rfl ?_)
 first | refine op_y (y_pickt rfl rfl) rfl ?_ | refine op_y (y_pickf rfl rfl) rfl ?_ | refine op_y (y_pick rfl rfl rfl) rfl ?_
 refine op_y (y_assign rfl) rfl ?_
 refine op_nil ?_
 refine ent_then ?_
 refine cd_iff rfl ?_
 refine cd_skip ?_
 refine ent_block ?_
 refine ent_then ?_
 refine cd_seq ?_
 refine cd_region [0] ?_
 refine op_y (y_assign rfl) rfl ?_
 refine op_nil ?_
 refine ent_then ?_
 refine cd_ret ?_
 refine ent_ret1 rfl rfl ⟨_, ⟨rfl, rfl⟩, fun w h => ?_⟩
 exact h.drop
theorem bTake_ct (c : Cx) (b : Bk) (n : Nat) (hb : b.ok) (hn : n < 18446744073709551616) : Ct Tryz.prog 167 #[.agg (Bk.cs b).toArray, .int .u64 n] c []
 fun v L => v = (if b.tok < n then .tuple #[.agg (Bk.cs b).toArray, .bool false] else .tuple #[.agg (Bk.cs { b with tok := b.tok - n }).toArray, .bool true]) ∧ L = [] := by
 have tl := hb.tl
 have bl := hb.bl
 refine ct_fn (args := [.agg (Bk.cs b).toArray, .int .u64 n]) [(0, .agg (Bk.cs b).toArray), (1, .int .u64 n)] Tryz.func167 rfl Tryz.ntmps167 rfl ⟨rfl, rfl, trivial⟩ ?_
 refine cd_seq ?_
 refine cd_region [2, 2, 0] ?_
 refine op_boxa rfl rfl fun b2 => ?_
 refine op_alloc Bucket.ze_210 rfl fun b4 => ?_
 refine op_y (y_assign rfl) rfl ?_
 refine op_nil ?_
 refine ent_then ?_
 refine cd_seq ?_
 refine cd_block ?_
 refine cd_seq ?_
 refine cd_region [1, 2, 0, 0] ?_
 apply op_lda Bucket.ag_210 rfl rfl
 ·exact rm
 ·(first | ((try simp only [zz, splice, Nat.reduceAdd, Nat.zero_mul, Bk.cs]) <;> rfl) | rfl)
 ·rfl
 apply op_c Bucket.ca_154 rfl rfl (fun e he_ => bCheck_ct e b hb)
 ·exact sx
 rintro _ _ ⟨rfl, rfl⟩ G_ hG_
 simp only [zn] at hG_; subst hG_
 first | refine op_y (y_ne rfl rfl (neT (by omega))) rfl ?_ | refine op_y (y_ne rfl rfl (neF (by omega))) rfl ?_ | refine op_y (y_ne rfl rfl rfl) rfl ?_
 refine op_y (y_assign rfl) rfl ?_
 refine op_nil ?_
 refine ent_then ?_
 refine cd_iff rfl ?_
 by_cases h : b.tok < n
 ·rw [if_pos h]
  skip
  refine cd_seq ?_
  refine cd_region [0, 1, 0, 0, 0] ?_
  first | refine op_y (y_fld Bucket.fo_210_2 rfl) rfl ?_ | refine op_y (y_flda Bucket.fo_210_2 rfl) rfl ?_
  apply op_ld Bucket.sc_22 rfl rfl
  ·exact rm
  ·rfl
  refine op_y (y_move rfl) rfl ?_
  first | refine op_y (y_lt rfl rfl (decide_eq_true (by omega))) rfl ?_ | refine op_y (y_lt rfl rfl (decide_eq_false (by omega))) rfl ?_ | refine op_y (y_lt rfl rfl rfl) rfl ?_
  refine op_y (y_assign rfl) rfl ?_
  refine op_nil ?_
  refine ent_then ?_
  refine cd_ift rfl ?_
  refine cd_seq ?_
  refine cd_region [1, 2, 0] ?_
  apply op_lda Bucket.ag_210 rfl rfl
  ·exact rm
  ·(first | ((try simp only [zz, splice, Nat.reduceAdd, Nat.zero_mul, Bk.cs]) <;> rfl) | rfl)
  ·rfl
  apply op_sta Bucket.sz_210 rfl rfl rfl rfl
  ·exact rm
  ·simp
  ·(first | ((try simp only [zz, splice, Nat.reduceAdd, Nat.zero_mul, Bk.cs]) <;> rfl) | rfl)
  refine op_y (y_assign rfl) rfl ?_
  refine op_nil ?_
  refine ent_then ?_
  refine cd_ret ?_
  refine ent_block_ret ?_
  refine ent_thn_ret ?_
  refine ent_rets (rs := [_, _]) (vs := [.agg (Bk.cs b).toArray, .bool false]) (.inl rfl) rfl ⟨⟨_, rfl, .inr ⟨_, 3, rfl, rfl, rds_all (by exact rm), rfl⟩⟩, rfl, trivial⟩ ⟨_, ⟨rfl, rfl⟩, fun w h => h.drop.drop⟩
 ·rw [if_neg h]
  skip
  refine cd_seq ?_
  refine cd_region [0, 1, 0, 0, 0] ?_
  first | refine op_y (y_fld Bucket.fo_210_2 rfl) rfl ?_ | refine op_y (y_flda Bucket.fo_210_2 rfl) rfl ?_
  apply op_ld Bucket.sc_22 rfl rfl
  ·exact rm
  ·rfl
  refine op_y (y_move rfl) rfl ?_
  first | refine op_y (y_lt rfl rfl (decide_eq_true (by omega))) rfl ?_ | refine op_y (y_lt rfl rfl (decide_eq_false (by omega))) rfl ?_ | refine op_y (y_lt rfl rfl rfl) rfl ?_
  refine op_y (y_assign rfl) rfl ?_
  refine op_nil ?_
  refine ent_then ?_
  refine cd_iff rfl ?_
  refine cd_skip ?_
  refine ent_block ?_
  refine ent_then ?_
  refine cd_seq ?_
  refine cd_region [0, 1, 0, 0, 0, 2] ?_
  first | refine op_y (y_fld Bucket.fo_210_2 rfl) rfl ?_ | refine op_y (y_flda Bucket.fo_210_2 rfl) rfl ?_
  apply op_ld Bucket.sc_22 rfl rfl
  ·exact rm
  ·rfl
  refine op_y (y_move rfl) rfl ?_
  refine op_y (y_sub (r := ((b.tok - n : Nat) : Int)) rfl rfl (by rw [IntKind.wrap_u64]; omega)) rfl ?_
  first | refine op_y (y_fld Bucket.fo_210_2 rfl) rfl ?_ | refine op_y (y_flda Bucket.fo_210_2 rfl) rfl ?_
  apply op_st1 Bucket.sz_22 rfl rfl rfl
  ·exact rm
  ·rfl
  ·(first | ((try simp only [zz, splice, Nat.reduceAdd, Nat.zero_mul, Bk.cs]) <;> rfl) | rfl)
  refine op_nil ?_
  refine ent_then ?_
  refine cd_seq ?_
  refine cd_region [1, 2, 0] ?_
  apply op_lda Bucket.ag_210 rfl rfl
  ·exact rm
  ·(first | ((try simp only [zz, splice, Nat.reduceAdd, Nat.zero_mul, Bk.cs]) <;> rfl) | rfl)
  ·rfl
  apply op_sta Bucket.sz_210 rfl rfl rfl rfl
  ·exact rm
  ·simp
  ·(first | ((try simp only [zz, splice, Nat.reduceAdd, Nat.zero_mul, Bk.cs]) <;> rfl) | rfl)
  refine op_y (y_assign rfl) rfl ?_
  refine op_nil ?_
  refine ent_then ?_
  refine cd_ret ?_
  refine ent_rets (rs := [_, _]) (vs := [.agg (Bk.cs { b with tok := b.tok - n }).toArray, .bool true]) (.inl rfl) rfl ⟨⟨_, rfl, .inr ⟨_, 3, rfl, rfl, rds_all (by exact rm), rfl⟩⟩, rfl, trivial⟩ ⟨_, ⟨rfl, rfl⟩, fun w h => h.drop.drop⟩
theorem bTick_ct (c : Cx) (b : Bk) (t : Nat) (hb : b.ok) (ht : t < 18446744073709551616) : Ct Tryz.prog 110 #[.agg (Bk.cs b).toArray, .int .u64 t] c []
 fun v L => v = .agg (Bk.cs { b with tok := min (satAdd b.tok (satMul b.rate t)) b.burst }).toArray ∧ L = [] := by
 have tl := hb.tl
 have bl := hb.bl
 have rl := hb.rl
 refine ct_fn (args := [.agg (Bk.cs b).toArray, .int .u64 t]) [(0, .agg (Bk.cs b).toArray), (1, .int .u64 t)] Tryz.func110 rfl Tryz.ntmps110 rfl ⟨rfl, rfl, trivial⟩ ?_
 refine cd_seq ?_
 refine cd_region [2, 2] ?_
 refine op_boxa rfl rfl fun b2 => ?_
 refine op_alloc Bucket.ze_210 rfl fun b4 => ?_
 refine op_nil ?_
 refine ent_then ?_
 refine cd_seq ?_
 refine cd_seq ?_
 refine cd_region [1, 2, 0] ?_
 apply op_lda Bucket.ag_210 rfl rfl
 ·exact rm
 ·(first | ((try simp only [zz, splice, Nat.reduceAdd, Nat.zero_mul, Bk.cs]) <;> rfl) | rfl)
 ·rfl
 apply op_c Bucket.ca_154 rfl rfl (fun e he_ => bCheck_ct e b hb)
 ·exact sx
 rintro _ _ ⟨rfl, rfl⟩ G_ hG_
 simp only [zn] at hG_; subst hG_
 first | refine op_y (y_ne rfl rfl (neT (by omega))) rfl ?_ | refine op_y (y_ne rfl rfl (neF (by omega))) rfl ?_ | refine op_y (y_ne rfl rfl rfl) rfl ?_
 refine op_nil ?_
 refine ent_then ?_
 refine cd_iff rfl ?_
 refine cd_skip ?_
 refine ent_then ?_
 refine cd_seq ?_
 refine cd_drawL [0, 1, 2, 3, 4, 6, 7, 5, 8, 9, 10] [0, 1, 0, 1, 0, 0, 3, 4, 0, 0, 2] mixed_ (by kernel_rfl) ?_
 first | refine op_y (y_fld Bucket.fo_210_2 rfl) rfl ?_ | refine op_y (y_flda Bucket.fo_210_2 rfl) rfl ?_
 apply op_ld Bucket.sc_22 rfl rfl
 ·exact rm
 ·rfl
 first | refine op_y (y_fld0 Bucket.fo_210_0 rfl) rfl ?_ | refine op_y (y_flda Bucket.fo_210_0 rfl) rfl ?_
 apply op_ld Bucket.sc_22 rfl rfl
 ·exact rm
 ·rfl
 refine op_y (y_move rfl) rfl ?_
 first | refine op_y (y_fld Bucket.fo_210_1 rfl) rfl ?_ | refine op_y (y_flda Bucket.fo_210_1 rfl) rfl ?_
 apply op_lds Bucket.sc_22 rfl rfl
 ·exact rm
 ·rfl
 ·(first | exact fun w h => h | exact fun w h => h.drop | (intro w h; apply Sat.only (h := h); exact sx))
 apply op_c4 Bucket.ca_171 rfl rfl (fun e he_ => satMulAdd_ct e b.tok b.rate t (by omega) rl ht)
 ·exact sx
 rintro _ _ ⟨rfl, rfl⟩ G_ hG_
 simp only [zn] at hG_; subst hG_
 refine ⟨by (first | exact fun w h => h | exact fun w h => h.drop | (intro w h; apply Sat.only (h := h); exact sx)), ?_⟩
 refine op_y (y_min (r := ((min (satAdd b.tok (satMul b.rate t)) b.burst : Nat) : Int)) rfl rfl (by split <;> omega)) rfl ?_
 first | refine op_y (y_fld Bucket.fo_210_2 rfl) rfl ?_ | refine op_y (y_flda Bucket.fo_210_2 rfl) rfl ?_
 apply op_st1 Bucket.sz_22 rfl rfl rfl
 ·exact rm
 ·rfl
 ·(first | ((try simp only [zz, splice, Nat.reduceAdd, Nat.zero_mul, Bk.cs]) <;> rfl) | rfl)
 refine op_nil ?_
 refine ent_then ?_
 refine cd_seq ?_
 refine cd_region [1, 2] ?_
 apply op_lda Bucket.ag_210 rfl rfl
 ·exact rm
 ·(first | ((try simp only [zz, splice, Nat.reduceAdd, Nat.zero_mul, Bk.cs]) <;> rfl) | rfl)
 ·rfl
 apply op_sta Bucket.sz_210 rfl rfl rfl rfl
 ·exact rm
 ·simp
 ·(first | ((try simp only [zz, splice, Nat.reduceAdd, Nat.zero_mul, Bk.cs]) <;> rfl) | rfl)
 refine op_nil ?_
 refine ent_then ?_
 refine cd_ret ?_
 refine ent_rets (rs := [_]) (vs := [.agg (Bk.cs { b with tok := min (satAdd b.tok (satMul b.rate t)) b.burst }).toArray]) (.inl rfl) rfl ⟨⟨_, rfl, .inr ⟨_, 3, rfl, rfl, rds_all (by exact rm), rfl⟩⟩, trivial⟩ ⟨_, ⟨rfl, rfl⟩, fun w h => h.drop.drop⟩
end Go.Proofs.YtfkadaodnaaceaaGreatDoor
/- The shaper of one flow, by a heap or a calendar: what comes in, what leaves, time. -/
namespace Go.Proofs.YtfkadaodnaaceaaGreatDoor
open Go Go.SL
theorem Shaper.ar_57 : arrK Tryz.prog 57 = some (32, 22, 1) := by kernel_rfl
theorem Shaper.ca_109 : callable Tryz.prog 109 = true := by kernel_rfl
theorem Shaper.fo_212_5 : fieldOff Tryz.prog 212 5 = some 7 := by kernel_rfl
theorem Shaper.sc_22 : scalarT Tryz.prog 22 = true := by kernel_rfl
theorem Shaper.sz_22 : sizeK Tryz.prog 22 = some 1 := by kernel_rfl
set_option maxRecDepth 100000
set_option maxHeartbeats 1000000
structure SS where
 I : List It
 tok : Nat
 now : Nat
 virt : Nat
 tag : Nat
def SS.by (x : SS) : Nat := (x.I.map (·.pk.len)).sum
structure SOK (x : SS) : Prop where
 len : x.I.length ≤ 9
 by_ : x.by ≤ 5000
 tok : x.tok ≤ 1000
 now : x.now < 18446744073709551616
 virt : x.virt < 18446744073709551616
 tag : x.tag < 18446744073709551616
 rank : ∀ y ∈ x.I, y.rank < 18446744073709551616
 flow : ∀ y ∈ x.I, y.pk.flow = 1
def SS.push (kd id n : Nat) (x : SS) : SS := { x with I := insI ⟨rankOf kd x.now x.virt x.tag, ⟨1, id, n⟩⟩ x.I, tag := tagOf kd x.virt x.tag n }
def SS.pop (kd : Nat) (x : SS) : SS := match x.I with
 | [] => x
 | y :: r => { x with I := r, tok := x.tok - y.pk.len, virt := if kd = 1 then y.rank else x.virt }
def SS.tick (t : Nat) (x : SS) : SS := { x with now := satAdd x.now t, tok := min (satAdd x.tok (satMul 1000 t)) 1000 }
def SS.why (n : Nat) (x : SS) : Nat := mayE x.I.length x.by n
def SS.out (x : SS) : Nat := match x.I with
 | [] => 18
 | y :: _ => if x.tok < y.pk.len then 19 else 0
theorem why_fits {x : SS} {n : Nat} (h : x.why n = 0) : 0 < n ∧ n ≤ 1000 ∧ x.I.length < 9 ∧ x.by + n ≤ 5000 ∨ 5000 < x.by := by
 unfold SS.why mayE at h
 split at h
 ·contradiction
 ·rename_i h2
  have h3 : fitE x.I.length x.by n = 0 := by simpa using h2
  unfold fitE at h3
  split at h3
  ·cases h3
  ·split at h3
   ·cases h3
   ·split at h3
    ·cases h3
    ·omega
theorem rankOf_lt {kd now virt tag : Nat} (h1 : virt < 18446744073709551616) (h2 : tag < 18446744073709551616) : rankOf kd now virt tag < 18446744073709551616 := by
 unfold rankOf; split
 ·omega
 ·exact satAdd_lt ..
theorem tagOf_lt {kd virt tag n : Nat} (h2 : tag < 18446744073709551616) : tagOf kd virt tag n < 18446744073709551616 := by
 unfold tagOf; split
 ·exact satAdd_lt ..
 ·exact h2
theorem push_by (kd id n : Nat) (x : SS) : (x.push kd id n).by = x.by + n := by
 have h : ∀ (y : It) (l : List It), ((insI y l).map (·.pk.len)).sum = y.pk.len + (l.map (·.pk.len)).sum := by
  intro y l
  induction l with
  | nil => simp [insI]
  | cons z zs ih =>
   simp only [insI]
   split
   ·simp
   ·simp only [List.map_cons, List.sum_cons, ih]; omega
 simp only [SS.by, SS.push, h]; omega
theorem push_len (kd id n : Nat) (x : SS) : (x.push kd id n).I.length = x.I.length + 1 := insI_length ..
theorem SOK.push {x : SS} (h : SOK x) {n : Nat} (hw : x.why n = 0) (kd id : Nat) : SOK (x.push kd id n) := by
 have hf := why_fits hw
 have hb := h.by_
 have hf : 0 < n ∧ n ≤ 1000 ∧ x.I.length < 9 ∧ x.by + n ≤ 5000 := by rcases hf with h | h <;> omega
 have hp := insI_perm ⟨rankOf kd x.now x.virt x.tag, ⟨1, id, n⟩⟩ x.I
 refine ⟨by rw [push_len]; omega, by rw [push_by]; omega, h.tok, h.now, h.virt, tagOf_lt h.tag, fun y hy => ?_, fun y hy => ?_⟩
 ·rcases List.mem_cons.1 (hp.mem_iff.1 hy) with rfl | hy
  ·exact rankOf_lt h.virt h.tag
  ·exact h.rank y hy
 ·rcases List.mem_cons.1 (hp.mem_iff.1 hy) with rfl | hy
  ·rfl
  ·exact h.flow y hy
theorem SOK.pop {x : SS} (h : SOK x) (kd : Nat) : SOK (x.pop kd) := by
 obtain ⟨I, tok, now, virt, tag⟩ := x
 obtain ⟨h1, h2, h3, h4, h5, h6, h7, h8⟩ := h
 simp only at h1 h2 h3 h4 h5 h6 h7 h8
 cases I with
 | nil => exact ⟨h1, h2, h3, h4, h5, h6, h7, h8⟩
 | cons y r =>
  refine ⟨by simp [SS.pop] at h1 ⊢; omega, by simp [SS.pop, SS.by] at h2 ⊢; omega, by simp [SS.pop]; omega, h4, ?_, h6, fun z hz => h7 z (by simp [SS.pop] at hz; simp [hz]), fun z hz => h8 z (by simp [SS.pop] at hz; simp [hz])⟩
  simp only [SS.pop]
  split
  ·exact h7 y (by simp)
  ·exact h5
theorem SOK.tick {x : SS} (h : SOK x) (t : Nat) : SOK (x.tick t) :=
 ⟨h.len, h.by_, Nat.min_le_right _ _, satAdd_lt .., h.virt, h.tag, h.rank, h.flow⟩
abbrev u64v (n : Nat) : Value := .int .u64 n
abbrev scs (g r tok p T now : Nat) (rf : List Nat) : List Value := .pointer (some ⟨g, 0, none⟩) :: .pointer (some ⟨r, 0, none⟩) :: .int .u64 1000 :: .int .u64 1000 :: .int .u64 tok :: .iface T (.agg #[.pointer (some ⟨p, 0, none⟩)]) :: .int .u64 now :: rf.map u64v
structure SX where
 g : Nat
 r : Nat
 p : Nat
 rf : List Nat
structure SXok (x : SX) : Prop where
 len : x.rf.length = 32
 lt : ∀ v ∈ x.rf, v < 18446744073709551616
abbrev bkOf (cal : Bool) : Nat := if cal then 2 else 1
/-- A shaper at block s: its ranks' kind, its backend, how many came. -/
def shI (s kd : Nat) (cal : Bool) (k : Nat) (x : SS) : As := fun h => ∃ X : SX, SXok X ∧ sepL [pt s 212 (scs X.g X.r x.tok X.p (backT cal) x.now X.rf), gateI X.g kd (bkOf cal) x.I.length x.by, rankI X.r kd x.virt x.tag, back cal X.p x.I k] h
theorem shI_open {s kd k : Nat} {cal : Bool} {x : SS} {M : List As} {c : Cx} (w : World) (h : Sat (shI s kd cal k x :: M) c w) : ∃ X : SX, SXok X ∧ Sat (pt s 212 (scs X.g X.r x.tok X.p (backT cal) x.now X.rf) :: gateI X.g kd (bkOf cal) x.I.length x.by :: rankI X.r kd x.virt x.tag :: back cal X.p x.I k :: M) c w := by
 obtain ⟨h1, ⟨X, hx, hs⟩, d, k⟩ := h
 exact ⟨X, hx, Sat.sepL_iff.1 ⟨h1, hs, d, k⟩⟩
theorem shI_shut {s kd k : Nat} {cal : Bool} {x : SS} {M : List As} {c : Cx} {w : World} (X : SX) (hX : SXok X) (h : Sat (pt s 212 (scs X.g X.r x.tok X.p (backT cal) x.now X.rf) :: gateI X.g kd (bkOf cal) x.I.length x.by :: rankI X.r kd x.virt x.tag :: back cal X.p x.I k :: M) c w) : Sat (shI s kd cal k x :: M) c w := by
 obtain ⟨h1, hs, d, k⟩ := Sat.sepL_iff.2 (show Sat ([_, _, _, _] ++ M) c w from h)
 exact ⟨h1, ⟨X, hX, hs⟩, d, k⟩
theorem SXok.inc {X : SX} (h : SXok X) {j v : Nat} (hv : v < 18446744073709551616) : SXok { X with rf := X.rf.set j v } :=
 ⟨by simp [h.len], fun u hu => by
  rcases List.mem_or_eq_of_mem_set hu with h1 | h1
  ·exact h.lt u h1
  ·omega⟩
theorem scs_get (g r tok p T now : Nat) (rf : List Nat) {j : Nat} (hj : j < rf.length) : (scs g r tok p T now rf)[7 + j * 1]? = some (u64v rf[j]) := by
 have : 7 + j * 1 = j + 7 := by omega
 rw [this]
 simp [hj]
theorem scs_set (g r tok p T now : Nat) (rf : List Nat) (j v : Nat) : (scs g r tok p T now rf).set (7 + j * 1) (u64v v) = scs g r tok p T now (rf.set j v) := by
 have : 7 + j * 1 = j + 7 := by omega
 rw [this]
 simp [List.map_set]
theorem scs_len (g r tok p T now : Nat) (rf : List Nat) : (scs g r tok p T now rf).length = rf.length + 7 := by simp
theorem refuse_ct (c : Cx) (s g r tok p T now j : Nat) (rf : List Nat) (hrf : rf.length = 32) (hlt : ∀ v ∈ rf, v < 18446744073709551616) (hj : j < 32) : Ct Tryz.prog 112 #[.pointer (some ⟨s, 0, none⟩), .int .i64 j] c [pt s 212 (scs g r tok p T now rf)]
 fun v L => ∃ n, n < 18446744073709551616 ∧ v = .int .i64 j ∧ L = [pt s 212 (scs g r tok p T now (rf.set j n))] := by
 refine ct_fn (args := [.pointer (some ⟨s, 0, none⟩), .int .i64 j]) [(0, .pointer (some ⟨s, 0, none⟩)), (1, .int .i64 j)] Tryz.func112 rfl Tryz.ntmps112 rfl ⟨rfl, rfl, trivial⟩ ?_
 have hjr : j < rf.length := by omega
 obtain ⟨v0, hv0⟩ : ∃ v0, v0 = rf[j] := ⟨_, rfl⟩
 have hg0 : (scs g r tok p T now rf)[7 + j * 1]? = some (.int .u64 v0) := by rw [hv0]; exact scs_get g r tok p T now rf hjr
 have hl0 : v0 < 18446744073709551616 := by rw [hv0]; exact hlt _ (List.getElem_mem _)
 refine cd_seq ?_
 refine cd_region [0] ?_
 refine op_y (y_assign rfl) rfl ?_
 refine op_nil ?_
 refine ent_then ?_
 refine cd_seq ?_
 refine cd_draw ([]) [0, 1, 2, 3, 4, 5, 6, 7, 9, 10, 8, 11, 12] [0, 0, 0, 0, 0, 0, 0, 1, 0, 0, 2, 0, 2] mixed_ (by kernel_rfl) ?_
 refine op_y (y_move rfl) rfl ?_
 refine op_y (y_move rfl) rfl ?_
 refine op_y (y_move rfl) rfl ?_
 refine op_y (y_move rfl) rfl ?_
 first | refine op_y (y_nil rfl) rfl ?_ | refine op_y (y_nili rfl) rfl ?_ | refine op_y (y_nilf rfl) rfl ?_
 first | refine op_y (y_fld Shaper.fo_212_5 rfl) rfl ?_ | refine op_y (y_flda Shaper.fo_212_5 rfl) rfl ?_
 refine op_y (y_ixv (j := j) Shaper.ar_57 rfl rfl (by omega) (by omega)) rfl ?_
 apply op_ld Shaper.sc_22 rfl rfl
 ·exact rm
 ·exact hg0
 first | refine op_y (y_nil rfl) rfl ?_ | refine op_y (y_nili rfl) rfl ?_ | refine op_y (y_nilf rfl) rfl ?_
 first | refine op_y (y_fld Shaper.fo_212_5 rfl) rfl ?_ | refine op_y (y_flda Shaper.fo_212_5 rfl) rfl ?_
 apply op_c Shaper.ca_109 rfl rfl (fun e he_ => satAdd_ct e v0 1 hl0 (by decide))
 ·exact sx
 rintro _ _ ⟨rfl, rfl⟩ G_ hG_
 simp only [zn] at hG_; subst hG_
 refine op_y (y_ixv (j := j) Shaper.ar_57 rfl rfl (by omega) (by omega)) rfl ?_
 apply op_st1e Shaper.sz_22 rfl rfl rfl
 ·exact rm
 ·exact (by rw [scs_len]; omega)
 ·exact scs_set g r tok p T now rf j _
 refine op_nil ?_
 refine ent_then ?_
 refine cd_seq ?_
 refine cd_region [0, 0] ?_
 refine op_y (y_move rfl) rfl ?_
 refine op_y (y_assign rfl) rfl ?_
 refine op_nil ?_
 refine ent_then ?_
 refine cd_ret ?_
 refine ent_ret1 rfl rfl ⟨_, ⟨satAdd v0 1, satAdd_lt .., rfl, rfl⟩, fun w h => ?_⟩
 apply Sat.only (h := h)
 exact sx
end Go.Proofs.YtfkadaodnaaceaaGreatDoor
/- What a configuration of two flows makes: checks, ranks, a gate. -/
namespace Go.Proofs.YtfkadaodnaaceaaGreatDoor
open Go Go.SL
theorem New.ag_197 : aggK Tryz.prog 197 = some 5 := by kernel_rfl
theorem New.ca_152 : callable Tryz.prog 152 = true := by kernel_rfl
theorem New.ca_153 : callable Tryz.prog 153 = true := by kernel_rfl
theorem New.ca_196 : callable Tryz.prog 196 = true := by kernel_rfl
theorem New.ca_222 : callable Tryz.prog 222 = true := by kernel_rfl
theorem New.fo_197_0 : fieldOff Tryz.prog 197 0 = some 0 := by kernel_rfl
theorem New.fo_312_2 : fieldOff Tryz.prog 312 2 = some 2 := by kernel_rfl
theorem New.pl_312 : placesK Tryz.prog 312 = some [(0, 1), (1, 1), (2, 1), (3, 1)] := by kernel_rfl
theorem New.sc_42 : scalarT Tryz.prog 42 = true := by kernel_rfl
theorem New.sc_264 : scalarT Tryz.prog 264 = true := by kernel_rfl
theorem New.sl_23 : sliceK Tryz.prog 23 = some (197, 5, 40) := by kernel_rfl
theorem New.sl_224 : sliceK Tryz.prog 224 = some (42, 1, 4) := by kernel_rfl
theorem New.sl_264 : sliceK Tryz.prog 264 = some (22, 1, 8) := by kernel_rfl
theorem New.sz_197 : sizeK Tryz.prog 197 = some 5 := by kernel_rfl
theorem New.sz_264 : sizeK Tryz.prog 264 = some 1 := by kernel_rfl
theorem New.un_23 : Tryz.prog.underlying 23 = some (.slice 197) := by kernel_rfl
theorem New.un_224 : Tryz.prog.underlying 224 = some (.slice 42) := by kernel_rfl
theorem New.ze_22 : zeroC Tryz.prog 22 = some [.int .u64 0] := by kernel_rfl
theorem New.ze_42 : zeroC Tryz.prog 42 = some [.int .u32 0] := by kernel_rfl
theorem New.ze_197 : zeroC Tryz.prog 197 = some [.int .u32 0, .int .u64 0, .int .u64 0, .int .u64 0, .int .u64 0] := by kernel_rfl
theorem New.ze_312 : zeroC Tryz.prog 312 = some [.int .i64 0, .slice none 0 0, .slice none 0 0, .int .u64 0] := by kernel_rfl
set_option maxRecDepth 100000
set_option maxHeartbeats 1000000
abbrev fl2c : List Value := [.int .u32 1, .int .u64 1, .int .u64 10, .int .u64 0, .int .u64 5000, .int .u32 2, .int .u64 1, .int .u64 20, .int .u64 0, .int .u64 50]
theorem index0_ct (c : Cx) (z : Int) : Ct Tryz.prog 222 #[.slice none 0 0, .int .u32 z] c [] fun v L => v = .int .i64 (-1) ∧ L = [] := by
 refine ct_fn (args := [.slice none 0 0, .int .u32 z]) [(0, .slice none 0 0), (1, .int .u32 z)] Tryz.func222 rfl Tryz.ntmps222 rfl ⟨rfl, rfl, trivial⟩ ?_
 refine cd_seq ?_
 refine cd_region [0] ?_
 refine op_y (y_assign rfl) rfl ?_
 refine op_nil ?_
 refine ent_then ?_
 refine cd_seq ?_
 refine cd_seq ?_
 refine cd_region [0, 0, 0] ?_
 refine op_y (y_move rfl) rfl ?_
 refine op_y (y_len New.un_224 rfl) rfl ?_
 refine op_y (y_move rfl) rfl ?_
 refine op_nil ?_
 refine ent_then ?_
 refine cd_block ?_
 refine cd_rounds 0 ?_
 refine cd_seq ?_
 refine cd_region [0] ?_
 first | refine op_y (y_lt rfl rfl (decide_eq_true (by omega))) rfl ?_ | refine op_y (y_lt rfl rfl (decide_eq_false (by omega))) rfl ?_ | refine op_y (y_lt rfl rfl rfl) rfl ?_
 refine op_nil ?_
 refine ent_then ?_
 refine cd_seq ?_
 refine cd_iff rfl ?_
 refine cd_exit ?_
 refine ent_thn_exit ?_
 refine ent_then_exit ?_
 refine ent_block_exit ?_
 refine ent_then ?_
 refine cd_seq ?_
 refine cd_region [0] ?_
 refine op_y (y_assign rfl) rfl ?_
 refine op_nil ?_
 refine ent_then ?_
 refine cd_ret ?_
 refine ent_ret1 rfl rfl ⟨_, ⟨rfl, rfl⟩, fun w h => h⟩
theorem index1_ct (c : Cx) (b cap : Nat) (r : List Value) : Ct Tryz.prog 222 #[.slice (some ⟨b, 0, none⟩) 1 cap, .int .u32 2] c [pt b 42 (.int .u32 1 :: r)] fun v L => v = .int .i64 (-1) ∧ L = [pt b 42 (.int .u32 1 :: r)] := by
 refine ct_fn (args := [.slice (some ⟨b, 0, none⟩) 1 cap, .int .u32 2]) [(0, .slice (some ⟨b, 0, none⟩) 1 cap), (1, .int .u32 2)] Tryz.func222 rfl Tryz.ntmps222 rfl ⟨rfl, rfl, trivial⟩ ?_
 refine cd_seq ?_
 refine cd_region [0] ?_
 refine op_y (y_assign rfl) rfl ?_
 refine op_nil ?_
 refine ent_then ?_
 refine cd_seq ?_
 refine cd_seq ?_
 refine cd_region [0, 0, 0] ?_
 refine op_y (y_move rfl) rfl ?_
 refine op_y (y_len New.un_224 rfl) rfl ?_
 refine op_y (y_move rfl) rfl ?_
 refine op_nil ?_
 refine ent_then ?_
 refine cd_block ?_
 refine cd_rounds 1 ?_
 refine cd_seq ?_
 refine cd_region [0] ?_
 first | refine op_y (y_lt rfl rfl (decide_eq_true (by omega))) rfl ?_ | refine op_y (y_lt rfl rfl (decide_eq_false (by omega))) rfl ?_ | refine op_y (y_lt rfl rfl rfl) rfl ?_
 refine op_nil ?_
 refine ent_then ?_
 refine cd_seq ?_
 refine cd_ift rfl ?_
 refine cd_skip ?_
 refine ent_then ?_
 refine cd_seq ?_
 refine cd_block ?_
 refine cd_seq ?_
 refine cd_region [0, 0] ?_
 refine op_y (y_move rfl) rfl ?_
 refine op_y (y_assign rfl) rfl ?_
 refine op_nil ?_
 refine ent_then ?_
 refine cd_seq ?_
 refine cd_region [0, 0, 0, 0, 1, 0] ?_
 refine op_y (y_move rfl) rfl ?_
 refine op_y (y_move rfl) rfl ?_
 refine op_y (y_move rfl) rfl ?_
 first | refine op_y (y_ix0 (j := 0) New.sl_224 rfl rfl (by omega) (by omega)) rfl ?_ | refine op_y (y_ix (j := 0) New.sl_224 rfl rfl (by omega) (by omega)) rfl ?_ | refine op_y (y_ixa (j := 0) New.sl_224 rfl rfl (by omega) (by omega)) rfl ?_
 apply op_ld New.sc_42 rfl rfl
 ·exact rm
 ·rfl
 first | refine op_y (y_eq rfl rfl (eqT (by omega))) rfl ?_ | refine op_y (y_eq rfl rfl (eqF (by omega))) rfl ?_ | refine op_y (y_eq rfl rfl rfl) rfl ?_
 refine op_nil ?_
 refine ent_then ?_
 refine cd_iff rfl ?_
 refine cd_skip ?_
 refine ent_block ?_
 refine ent_then ?_
 refine cd_region [0, 0] ?_
 first | refine op_y (y_add rfl rfl (wi64 (by omega) (by omega))) rfl ?_ | refine op_y (y_add rfl rfl rfl) rfl ?_
 refine op_y (y_move rfl) rfl ?_
 refine op_nil ?_
 refine ent_round ?_
 refine cd_seq ?_
 refine cd_region [0] ?_
 first | refine op_y (y_lt rfl rfl (decide_eq_true (by omega))) rfl ?_ | refine op_y (y_lt rfl rfl (decide_eq_false (by omega))) rfl ?_ | refine op_y (y_lt rfl rfl rfl) rfl ?_
 refine op_nil ?_
 refine ent_then ?_
 refine cd_seq ?_
 refine cd_iff rfl ?_
 refine cd_exit ?_
 refine ent_thn_exit ?_
 refine ent_then_exit ?_
 refine ent_block_exit ?_
 refine ent_then ?_
 refine cd_seq ?_
 refine cd_region [0] ?_
 refine op_y (y_assign rfl) rfl ?_
 refine op_nil ?_
 refine ent_then ?_
 refine cd_ret ?_
 refine ent_ret1 rfl rfl ⟨_, ⟨rfl, rfl⟩, fun w h => h⟩
theorem contains0_ct (c : Cx) (z : Int) : Ct Tryz.prog 196 #[.slice none 0 0, .int .u32 z] c [] fun v L => v = .bool false ∧ L = [] := by
 refine ct_fn (args := [.slice none 0 0, .int .u32 z]) [(0, .slice none 0 0), (1, .int .u32 z)] Tryz.func196 rfl Tryz.ntmps196 rfl ⟨rfl, rfl, trivial⟩ ?_
 refine cd_seq ?_
 refine cd_region [0] ?_
 refine op_y (y_assign rfl) rfl ?_
 refine op_nil ?_
 refine ent_then ?_
 refine cd_seq ?_
 refine cd_region [0, 0, 2, 0, 0] ?_
 refine op_y (y_move rfl) rfl ?_
 refine op_y (y_move rfl) rfl ?_
 apply op_c New.ca_222 rfl rfl (fun e he_ => index0_ct e z)
 ·exact sx
 rintro _ _ ⟨rfl, rfl⟩ G_ hG_
 simp only [zn] at hG_; subst hG_
 first | refine op_y (y_ge rfl rfl (decide_eq_true (by omega))) rfl ?_ | refine op_y (y_ge rfl rfl (decide_eq_false (by omega))) rfl ?_ | refine op_y (y_ge rfl rfl rfl) rfl ?_
 refine op_y (y_assign rfl) rfl ?_
 refine op_nil ?_
 refine ent_then ?_
 refine cd_ret ?_
 refine ent_ret1 rfl rfl ⟨_, ⟨rfl, rfl⟩, fun w h => h⟩
theorem contains1_ct (c : Cx) (b cap : Nat) (r : List Value) : Ct Tryz.prog 196 #[.slice (some ⟨b, 0, none⟩) 1 cap, .int .u32 2] c [pt b 42 (.int .u32 1 :: r)] fun v L => v = .bool false ∧ L = [pt b 42 (.int .u32 1 :: r)] := by
 refine ct_fn (args := [.slice (some ⟨b, 0, none⟩) 1 cap, .int .u32 2]) [(0, .slice (some ⟨b, 0, none⟩) 1 cap), (1, .int .u32 2)] Tryz.func196 rfl Tryz.ntmps196 rfl ⟨rfl, rfl, trivial⟩ ?_
 refine cd_seq ?_
 refine cd_region [0] ?_
 refine op_y (y_assign rfl) rfl ?_
 refine op_nil ?_
 refine ent_then ?_
 refine cd_seq ?_
 refine cd_region [0, 0, 2, 0, 0] ?_
 refine op_y (y_move rfl) rfl ?_
 refine op_y (y_move rfl) rfl ?_
 apply op_c New.ca_222 rfl rfl (fun e he_ => index1_ct e b cap r)
 ·exact sx
 rintro _ _ ⟨rfl, rfl⟩ G_ hG_
 simp only [zn] at hG_; subst hG_
 first | refine op_y (y_ge rfl rfl (decide_eq_true (by omega))) rfl ?_ | refine op_y (y_ge rfl rfl (decide_eq_false (by omega))) rfl ?_ | refine op_y (y_ge rfl rfl rfl) rfl ?_
 refine op_y (y_assign rfl) rfl ?_
 refine op_nil ?_
 refine ent_then ?_
 refine cd_ret ?_
 refine ent_ret1 rfl rfl ⟨_, ⟨rfl, rfl⟩, fun w h => h⟩
theorem twice_ct (c : Cx) (bf : Nat) : Ct Tryz.prog 152 #[.slice (some ⟨bf, 0, none⟩) 2 2] c [pt bf 197 fl2c] fun v L => v = .bool false ∧ L = [pt bf 197 fl2c] := by
 refine ct_fn (args := [.slice (some ⟨bf, 0, none⟩) 2 2]) [(0, .slice (some ⟨bf, 0, none⟩) 2 2)] Tryz.func152 rfl Tryz.ntmps152 rfl ⟨rfl, trivial⟩ ?_
 refine cd_to (L' := [ownS 42 1 none 0 0 [], pt bf 197 fl2c]) (fun w h => ownS_nil h) ?_
 refine cd_seq ?_
 refine cd_region [0] ?_
 refine op_y (y_assign rfl) rfl ?_
 refine op_nil ?_
 refine ent_then ?_
 refine cd_seq ?_
 refine cd_region [0] ?_
 refine op_y (y_assign rfl) rfl ?_
 refine op_nil ?_
 refine ent_then ?_
 refine cd_seq ?_
 refine cd_seq ?_
 refine cd_region [0, 0, 0] ?_
 refine op_y (y_move rfl) rfl ?_
 refine op_y (y_len New.un_23 rfl) rfl ?_
 refine op_y (y_move rfl) rfl ?_
 refine op_nil ?_
 refine ent_then ?_
 refine cd_block ?_
 refine cd_rounds 2 ?_
 refine cd_seq ?_
 refine cd_region [0] ?_
 first | refine op_y (y_lt rfl rfl (decide_eq_true (by omega))) rfl ?_ | refine op_y (y_lt rfl rfl (decide_eq_false (by omega))) rfl ?_ | refine op_y (y_lt rfl rfl rfl) rfl ?_
 refine op_nil ?_
 refine ent_then ?_
 refine cd_seq ?_
 refine cd_ift rfl ?_
 refine cd_skip ?_
 refine ent_then ?_
 refine cd_seq ?_
 refine cd_block ?_
 refine cd_seq ?_
 refine cd_region [0, 1, 2, 2] ?_
 first | refine op_y (y_ix0 (j := 0) New.sl_23 rfl rfl (by omega) (by omega)) rfl ?_ | refine op_y (y_ix (j := 0) New.sl_23 rfl rfl (by omega) (by omega)) rfl ?_ | refine op_y (y_ixa (j := 0) New.sl_23 rfl rfl (by omega) (by omega)) rfl ?_
 apply op_lda New.ag_197 rfl rfl
 ·exact rm
 ·(first | ((try simp only [zz, splice, Nat.reduceAdd, Nat.zero_mul, Fl.cs, Nat.zero, fl2c]) <;> rfl) | rfl)
 ·rfl
 refine op_alloc New.ze_197 rfl fun b5 => ?_
 apply op_sta New.sz_197 rfl rfl rfl rfl
 ·exact rm
 ·simp
 ·(first | ((try simp only [zz, splice, Nat.reduceAdd, Nat.zero_mul, Fl.cs, Nat.zero, fl2c]) <;> rfl) | rfl)
 refine op_nil ?_
 refine ent_then ?_
 refine cd_seq ?_
 refine cd_seq ?_
 refine cd_region [0, 0, 1, 2] ?_
 refine op_y (y_move rfl) rfl ?_
 first | refine op_y (y_fld0 New.fo_197_0 rfl) rfl ?_ | refine op_y (y_flda New.fo_197_0 rfl) rfl ?_
 apply op_ld New.sc_42 rfl rfl
 ·exact rm
 ·rfl
 apply op_c New.ca_196 rfl rfl (fun e he_ => contains0_ct e 1)
 ·exact sx
 rintro _ _ ⟨rfl, rfl⟩ G_ hG_
 simp only [zn] at hG_; subst hG_
 refine op_nil ?_
 refine ent_then ?_
 refine cd_iff rfl ?_
 refine cd_skip ?_
 refine ent_then ?_
 refine cd_region [0, 0, 1, 2, 2, 0] ?_
 refine op_y (y_move rfl) rfl ?_
 first | refine op_y (y_fld0 New.fo_197_0 rfl) rfl ?_ | refine op_y (y_flda New.fo_197_0 rfl) rfl ?_
 apply op_ld New.sc_42 rfl rfl
 ·exact rm
 ·rfl
 apply op_bslice New.sl_224 New.ze_42 rfl rfl rfl rfl rfl
 ·(first | ((try simp [fillL, splice, Value.cells, Fl.cs, Nat.zero, fl2c]) <;> rfl) | rfl)
 intro b19
 apply op_append New.sl_224 New.ze_42 rfl rfl rfl (by decide) rfl
 ·exact rm
 ·(apply rds_all; exact rm)
 ·first | rfl | simp
 ·first | rfl | simp [ones]
 ·omega
 ·omega
 ·omega
 intro A20 c20
 refine op_y (y_assign rfl) rfl ?_
 refine op_nil ?_
 refine ent_block ?_
 refine ent_then ?_
 refine cd_region [0, 0] ?_
 first | refine op_y (y_add rfl rfl (wi64 (by omega) (by omega))) rfl ?_ | refine op_y (y_add rfl rfl rfl) rfl ?_
 refine op_y (y_move rfl) rfl ?_
 refine op_nil ?_
 refine ent_round ?_
 refine cd_seq ?_
 refine cd_region [0] ?_
 first | refine op_y (y_lt rfl rfl (decide_eq_true (by omega))) rfl ?_ | refine op_y (y_lt rfl rfl (decide_eq_false (by omega))) rfl ?_ | refine op_y (y_lt rfl rfl rfl) rfl ?_
 refine op_nil ?_
 refine ent_then ?_
 refine cd_seq ?_
 refine cd_ift rfl ?_
 apply cd_own (A := A20)
 ·exact rm
 ·decide
 ·rfl
 rintro b1 r1 rfl h11 h12
 simp only [List.nil_append, List.cons_append]
 refine cd_skip ?_
 refine ent_then ?_
 refine cd_seq ?_
 refine cd_block ?_
 refine cd_seq ?_
 refine cd_region [0, 1, 2, 2] ?_
 first | refine op_y (y_ix0 (j := 1) New.sl_23 rfl rfl (by omega) (by omega)) rfl ?_ | refine op_y (y_ix (j := 1) New.sl_23 rfl rfl (by omega) (by omega)) rfl ?_ | refine op_y (y_ixa (j := 1) New.sl_23 rfl rfl (by omega) (by omega)) rfl ?_
 apply op_lda New.ag_197 rfl rfl
 ·exact rm
 ·(first | ((try simp only [zz, splice, Nat.reduceAdd, Nat.zero_mul, Fl.cs, Nat.zero, fl2c]) <;> rfl) | rfl)
 ·rfl
 refine op_alloc New.ze_197 rfl fun b5 => ?_
 apply op_sta New.sz_197 rfl rfl rfl rfl
 ·exact rm
 ·simp
 ·(first | ((try simp only [zz, splice, Nat.reduceAdd, Nat.zero_mul, Fl.cs, Nat.zero, fl2c]) <;> rfl) | rfl)
 refine op_nil ?_
 refine ent_then ?_
 refine cd_seq ?_
 refine cd_seq ?_
 refine cd_region [0, 0, 1, 2] ?_
 refine op_y (y_move rfl) rfl ?_
 first | refine op_y (y_fld0 New.fo_197_0 rfl) rfl ?_ | refine op_y (y_flda New.fo_197_0 rfl) rfl ?_
 apply op_ld New.sc_42 rfl rfl
 ·exact rm
 ·rfl
 apply op_c New.ca_196 rfl rfl (fun e he_ => contains1_ct e b1 c20 r1)
 ·exact sx
 rintro _ _ ⟨rfl, rfl⟩ G_ hG_
 simp only [zn] at hG_; subst hG_
 refine op_nil ?_
 refine ent_then ?_
 refine cd_iff rfl ?_
 refine cd_to (L' := [ownS 42 1 (some ⟨b1, 0, none⟩) 1 c20 [.int .u32 1], pt bf 197 fl2c, pt b5 197 [.int .u32 2, .int .u64 1, .int .u64 20, .int .u64 0, .int .u64 50]]) (fun w h => ?_) ?_
 ·refine ownS_mk (r := r1) h11 h12 ?_
  simp only [List.nil_append, List.cons_append]
  apply Sat.only (h := h)
  exact sx
 refine cd_skip ?_
 refine ent_then ?_
 refine cd_region [0, 0, 1, 2, 2, 0] ?_
 refine op_y (y_move rfl) rfl ?_
 first | refine op_y (y_fld0 New.fo_197_0 rfl) rfl ?_ | refine op_y (y_flda New.fo_197_0 rfl) rfl ?_
 apply op_ld New.sc_42 rfl rfl
 ·exact rm
 ·rfl
 apply op_bslice New.sl_224 New.ze_42 rfl rfl rfl rfl rfl
 ·(first | ((try simp [fillL, splice, Value.cells, Fl.cs, Nat.zero, fl2c]) <;> rfl) | rfl)
 intro b19
 apply op_append New.sl_224 New.ze_42 rfl rfl rfl (by decide) rfl
 ·exact rm
 ·(apply rds_all; exact rm)
 ·first | rfl | simp
 ·first | rfl | simp [ones]
 ·omega
 ·omega
 ·omega
 intro A20 c20
 refine op_y (y_assign rfl) rfl ?_
 refine op_nil ?_
 refine ent_block ?_
 refine ent_then ?_
 refine cd_region [0, 0] ?_
 first | refine op_y (y_add rfl rfl (wi64 (by omega) (by omega))) rfl ?_ | refine op_y (y_add rfl rfl rfl) rfl ?_
 refine op_y (y_move rfl) rfl ?_
 refine op_nil ?_
 refine ent_round ?_
 refine cd_seq ?_
 refine cd_region [0] ?_
 first | refine op_y (y_lt rfl rfl (decide_eq_true (by omega))) rfl ?_ | refine op_y (y_lt rfl rfl (decide_eq_false (by omega))) rfl ?_ | refine op_y (y_lt rfl rfl rfl) rfl ?_
 refine op_nil ?_
 refine ent_then ?_
 refine cd_seq ?_
 refine cd_iff rfl ?_
 refine cd_exit ?_
 refine ent_thn_exit ?_
 refine ent_then_exit ?_
 refine ent_block_exit ?_
 refine ent_then ?_
 refine cd_seq ?_
 refine cd_region [0] ?_
 refine op_y (y_assign rfl) rfl ?_
 refine op_nil ?_
 refine ent_then ?_
 refine cd_ret ?_
 refine ent_ret1 rfl rfl ⟨_, ⟨rfl, rfl⟩, fun w h => ?_⟩
 apply Sat.only (h := h)
 exact sx
theorem clonef_ct (c : Cx) (bf : Nat) : Ct Tryz.prog 153 #[.slice (some ⟨bf, 0, none⟩) 2 2] c [pt bf 197 fl2c] fun v L => ∃ A k, v = .slice A 2 k ∧ L = [ownS 197 5 A 2 k fl2c, pt bf 197 fl2c] := by
 refine ct_fn (args := [.slice (some ⟨bf, 0, none⟩) 2 2]) [(0, .slice (some ⟨bf, 0, none⟩) 2 2)] Tryz.func153 rfl Tryz.ntmps153 rfl ⟨rfl, trivial⟩ ?_
 refine cd_seq ?_
 refine cd_region [0] ?_
 refine op_y (y_assign rfl) rfl ?_
 refine op_nil ?_
 refine ent_then ?_
 refine cd_seq ?_
 refine cd_seq ?_
 refine cd_region [0, 0] ?_
 refine op_y (y_move rfl) rfl ?_
 refine op_y (y_sleqn New.un_23 rfl) rfl ?_
 refine op_nil ?_
 refine ent_then ?_
 refine cd_iff rfl ?_
 refine cd_skip ?_
 refine ent_then ?_
 refine cd_seq ?_
 refine cd_region [2, 0, 2, 0] ?_
 refine op_bslice0 New.sl_23 rfl fun b5 => ?_
 refine op_y (y_move rfl) rfl ?_
 refine op_to (L' := [ownS 197 5 (some ⟨b5, 0, none⟩) 0 0 [], pt bf 197 fl2c]) (fun w h => ?_) ?_
 ·refine ownS_mk (r := []) rfl rfl ?_
  simp only [List.append_nil]
  apply Sat.only (h := h)
  exact sx
 apply op_append New.sl_23 New.ze_197 rfl rfl rfl (by decide) rfl
 ·exact rm
 ·(apply rds_all; exact rm)
 ·first | rfl | simp
 ·first | rfl | simp [ones]
 ·omega
 ·omega
 ·omega
 intro A7 c7
 refine op_y (y_assign rfl) rfl ?_
 refine op_nil ?_
 refine ent_then ?_
 refine cd_ret ?_
 refine ent_ret1 rfl rfl ⟨_, ⟨A7, c7, rfl, rfl⟩, fun w h => h⟩
theorem fl2c_eq : flat Fl.cs [fl1, fl2] = fl2c := rfl
theorem rNew_ct (c : Cx) (bf kd : Nat) (hkd : kd = 1 ∨ kd = 2) : Ct Tryz.prog 91 #[.int .i64 kd, .slice (some ⟨bf, 0, none⟩) 2 2] c [pt bf 197 fl2c] fun v L => ∃ r, v = .tuple #[.pointer (some ⟨r, 0, none⟩), .int .i64 0] ∧ L = [rankI r kd 0 0, pt bf 197 fl2c] := by
 have hk1 : 1 ≤ kd := by omega
 have hk2 : kd ≤ 2 := by omega
 refine ct_fn (args := [.int .i64 kd, .slice (some ⟨bf, 0, none⟩) 2 2]) [(0, .int .i64 kd), (1, .slice (some ⟨bf, 0, none⟩) 2 2)] Tryz.func91 rfl Tryz.ntmps91 rfl ⟨rfl, rfl, trivial⟩ ?_
 refine cd_seq ?_
 refine cd_region [0, 0] ?_
 refine op_y (y_assign rfl) rfl ?_
 refine op_y (y_assign rfl) rfl ?_
 refine op_nil ?_
 refine ent_then ?_
 refine cd_seq ?_
 refine cd_block ?_
 refine cd_seq ?_
 refine cd_region [0, 0, 0, 0, 0, 0, 0] ?_
 refine op_y (y_move rfl) rfl ?_
 first | refine op_y (y_lt rfl rfl (decide_eq_true (by omega))) rfl ?_ | refine op_y (y_lt rfl rfl (decide_eq_false (by omega))) rfl ?_ | refine op_y (y_lt rfl rfl rfl) rfl ?_
 refine op_y (y_move rfl) rfl ?_
 first
  | refine op_s1 rfl rfl ⟨rfl, rfl⟩ ?_
  | refine op_s2 rfl rfl ⟨rfl, rfl⟩ ?_
  | (refine op_g rfl rfl ?_
     refine op_y (y_move rfl) rfl ?_)
 first
  | refine op_s1 rfl rfl ⟨rfl, rfl⟩ ?_
  | refine op_s2 rfl rfl ⟨rfl, rfl⟩ ?_
  | (refine op_g rfl rfl ?_
     first | refine op_y (y_gt rfl rfl (decide_eq_true (by omega))) rfl ?_ | refine op_y (y_gt rfl rfl (decide_eq_false (by omega))) rfl ?_ | refine op_y (y_gt rfl rfl rfl) rfl ?_)
 first | refine op_y (y_pickt rfl rfl) rfl ?_ | refine op_y (y_pickf rfl rfl) rfl ?_ | refine op_y (y_pick rfl rfl rfl) rfl ?_
 refine op_y (y_assign rfl) rfl ?_
 refine op_nil ?_
 refine ent_then ?_
 refine cd_iff rfl ?_
 refine cd_seq ?_
 refine cd_region [0, 0, 0, 0, 0, 0, 0, 0, 0] ?_
 refine op_y (y_move rfl) rfl ?_
 refine op_y (y_len New.un_23 rfl) rfl ?_
 first | refine op_y (y_eq rfl rfl (eqT (by omega))) rfl ?_ | refine op_y (y_eq rfl rfl (eqF (by omega))) rfl ?_ | refine op_y (y_eq rfl rfl rfl) rfl ?_
 refine op_y (y_move rfl) rfl ?_
 first
  | refine op_s1 rfl rfl ⟨rfl, rfl⟩ ?_
  | refine op_s2 rfl rfl ⟨rfl, rfl⟩ ?_
  | (refine op_g rfl rfl ?_
     refine op_y (y_move rfl) rfl ?_)
 first
  | refine op_s1 rfl rfl ⟨rfl, rfl⟩ ?_
  | refine op_s2 rfl rfl ⟨rfl, rfl⟩ ?_
  | (refine op_g rfl rfl ?_
     refine op_y (y_len New.un_23 rfl) rfl ?_)
 first
  | refine op_s1 rfl rfl ⟨rfl, rfl⟩ ?_
  | refine op_s2 rfl rfl ⟨rfl, rfl⟩ ?_
  | (refine op_g rfl rfl ?_
     first | refine op_y (y_gt rfl rfl (decide_eq_true (by omega))) rfl ?_ | refine op_y (y_gt rfl rfl (decide_eq_false (by omega))) rfl ?_ | refine op_y (y_gt rfl rfl rfl) rfl ?_)
 first | refine op_y (y_pickt rfl rfl) rfl ?_ | refine op_y (y_pickf rfl rfl) rfl ?_ | refine op_y (y_pick rfl rfl rfl) rfl ?_
 refine op_y (y_assign rfl) rfl ?_
 refine op_nil ?_
 refine ent_then ?_
 refine cd_iff rfl ?_
 refine cd_seq ?_
 refine cd_region [0, 2, 0] ?_
 refine op_y (y_move rfl) rfl ?_
 apply op_c New.ca_152 rfl rfl (fun e he_ => twice_ct e bf)
 ·exact sx
 rintro _ _ ⟨rfl, rfl⟩ G_ hG_
 simp only [zn] at hG_; subst hG_
 refine op_y (y_assign rfl) rfl ?_
 refine op_nil ?_
 refine ent_then ?_
 refine cd_iff rfl ?_
 refine cd_skip ?_
 refine ent_block ?_
 refine ent_then ?_
 refine cd_seq ?_
 refine cd_region [0, 0, 2, 0, 2, 0] ?_
 refine op_y (y_move rfl) rfl ?_
 refine op_y (y_move rfl) rfl ?_
 apply op_c New.ca_153 rfl rfl (fun e he_ => clonef_ct e bf)
 ·exact sx
 rintro _ _ ⟨A, k, rfl, rfl⟩ G_ hG_
 simp only [zn] at hG_; subst hG_
 apply op_build New.pl_312 New.ze_312 rfl rfl
 ·(first | ((try simp [fillL, splice, Value.cells, Fl.cs, Nat.zero, fl2c]) <;> rfl) | rfl)
 refine op_boxa rfl rfl fun b33 => ?_
 refine op_y (y_assign rfl) rfl ?_
 refine op_nil ?_
 refine ent_then ?_
 refine cd_seq ?_
 refine cd_seq ?_
 refine cd_region [0, 0, 0] ?_
 refine op_to (L' := [ownS 22 1 none 0 0 [], ownS 197 5 A 2 k fl2c, pt bf 197 fl2c, pt b33 312 [.int .i64 kd, .slice A 2 k, .slice none 0 0, .int .u64 0]]) (fun w h => ownS_nil ?_) ?_
 ·apply Sat.only (h := h)
  exact sx
 refine op_y (y_move rfl) rfl ?_
 refine op_y (y_len New.un_23 rfl) rfl ?_
 refine op_y (y_move rfl) rfl ?_
 refine op_nil ?_
 refine ent_then ?_
 refine cd_block ?_
 refine cd_rounds 2 ?_
 refine cd_seq ?_
 refine cd_region [0] ?_
 first | refine op_y (y_lt rfl rfl (decide_eq_true (by omega))) rfl ?_ | refine op_y (y_lt rfl rfl (decide_eq_false (by omega))) rfl ?_ | refine op_y (y_lt rfl rfl rfl) rfl ?_
 refine op_nil ?_
 refine ent_then ?_
 refine cd_seq ?_
 refine cd_ift rfl ?_
 refine cd_skip ?_
 refine ent_then ?_
 refine cd_seq ?_
 refine cd_block ?_
 refine cd_seq ?_
 refine cd_region [0, 1, 2, 2] ?_
 first | refine op_y (y_ix0 (j := 0) New.sl_23 rfl rfl (by omega) (by omega)) rfl ?_ | refine op_y (y_ix (j := 0) New.sl_23 rfl rfl (by omega) (by omega)) rfl ?_ | refine op_y (y_ixa (j := 0) New.sl_23 rfl rfl (by omega) (by omega)) rfl ?_
 apply op_lda New.ag_197 rfl rfl
 ·exact rm
 ·(first | ((try simp only [zz, splice, Nat.reduceAdd, Nat.zero_mul, Fl.cs, Nat.zero, fl2c]) <;> rfl) | rfl)
 ·rfl
 refine op_alloc New.ze_197 rfl fun b8 => ?_
 apply op_sta New.sz_197 rfl rfl rfl rfl
 ·exact rm
 ·simp
 ·(first | ((try simp only [zz, splice, Nat.reduceAdd, Nat.zero_mul, Fl.cs, Nat.zero, fl2c]) <;> rfl) | rfl)
 refine op_nil ?_
 refine ent_then ?_
 refine cd_seq ?_
 refine cd_region [0] ?_
 refine op_y (y_assign rfl) rfl ?_
 refine op_nil ?_
 refine ent_then ?_
 refine cd_seq ?_
 refine cd_seq ?_
 refine cd_region [0, 0] ?_
 refine op_y (y_move rfl) rfl ?_
 first | refine op_y (y_eq rfl rfl (eqT (by omega))) rfl ?_ | refine op_y (y_eq rfl rfl (eqF (by omega))) rfl ?_ | refine op_y (y_eq rfl rfl rfl) rfl ?_
 refine op_nil ?_
 refine ent_then ?_
 refine cd_iff rfl ?_
 refine cd_skip ?_
 refine ent_then ?_
 refine cd_region [0, 0, 0, 0, 1, 0, 2, 2, 0, 0, 2] ?_
 refine op_y (y_move rfl) rfl ?_
 refine op_y (y_move rfl) rfl ?_
 first | refine op_y (y_nil rfl) rfl ?_ | refine op_y (y_nili rfl) rfl ?_ | refine op_y (y_nilf rfl) rfl ?_
 first | refine op_y (y_fld New.fo_312_2 rfl) rfl ?_ | refine op_y (y_flda New.fo_312_2 rfl) rfl ?_
 apply op_ld New.sc_264 rfl rfl
 ·exact rm
 ·rfl
 refine op_y (y_move rfl) rfl ?_
 apply op_bslice New.sl_264 New.ze_22 rfl rfl rfl rfl rfl
 ·(first | ((try simp [fillL, splice, Value.cells, Fl.cs, Nat.zero, fl2c]) <;> rfl) | rfl)
 intro b50
 apply op_append New.sl_264 New.ze_22 rfl rfl rfl (by decide) rfl
 ·exact rm
 ·(apply rds_all; exact rm)
 ·first | rfl | simp
 ·first | rfl | simp [ones]
 ·omega
 ·omega
 ·omega
 intro A51 c51
 first | refine op_y (y_nil rfl) rfl ?_ | refine op_y (y_nili rfl) rfl ?_ | refine op_y (y_nilf rfl) rfl ?_
 first | refine op_y (y_fld New.fo_312_2 rfl) rfl ?_ | refine op_y (y_flda New.fo_312_2 rfl) rfl ?_
 apply op_st1 New.sz_264 rfl rfl rfl
 ·exact rm
 ·rfl
 ·(first | ((try simp only [zz, splice, Nat.reduceAdd, Nat.zero_mul, Fl.cs, Nat.zero, fl2c]) <;> rfl) | rfl)
 refine op_nil ?_
 refine ent_block ?_
 refine ent_then ?_
 refine cd_region [0, 0] ?_
 first | refine op_y (y_add rfl rfl (wi64 (by omega) (by omega))) rfl ?_ | refine op_y (y_add rfl rfl rfl) rfl ?_
 refine op_y (y_move rfl) rfl ?_
 refine op_nil ?_
 refine ent_round ?_
 refine cd_seq ?_
 refine cd_region [0] ?_
 first | refine op_y (y_lt rfl rfl (decide_eq_true (by omega))) rfl ?_ | refine op_y (y_lt rfl rfl (decide_eq_false (by omega))) rfl ?_ | refine op_y (y_lt rfl rfl rfl) rfl ?_
 refine op_nil ?_
 refine ent_then ?_
 refine cd_seq ?_
 refine cd_ift rfl ?_
 refine cd_skip ?_
 refine ent_then ?_
 refine cd_seq ?_
 refine cd_block ?_
 refine cd_seq ?_
 refine cd_region [0, 1, 2, 2] ?_
 first | refine op_y (y_ix0 (j := 1) New.sl_23 rfl rfl (by omega) (by omega)) rfl ?_ | refine op_y (y_ix (j := 1) New.sl_23 rfl rfl (by omega) (by omega)) rfl ?_ | refine op_y (y_ixa (j := 1) New.sl_23 rfl rfl (by omega) (by omega)) rfl ?_
 apply op_lda New.ag_197 rfl rfl
 ·exact rm
 ·(first | ((try simp only [zz, splice, Nat.reduceAdd, Nat.zero_mul, Fl.cs, Nat.zero, fl2c]) <;> rfl) | rfl)
 ·rfl
 refine op_alloc New.ze_197 rfl fun b8 => ?_
 apply op_sta New.sz_197 rfl rfl rfl rfl
 ·exact rm
 ·simp
 ·(first | ((try simp only [zz, splice, Nat.reduceAdd, Nat.zero_mul, Fl.cs, Nat.zero, fl2c]) <;> rfl) | rfl)
 refine op_nil ?_
 refine ent_then ?_
 refine cd_seq ?_
 refine cd_region [0] ?_
 refine op_y (y_assign rfl) rfl ?_
 refine op_nil ?_
 refine ent_then ?_
 refine cd_seq ?_
 refine cd_seq ?_
 refine cd_region [0, 0] ?_
 refine op_y (y_move rfl) rfl ?_
 first | refine op_y (y_eq rfl rfl (eqT (by omega))) rfl ?_ | refine op_y (y_eq rfl rfl (eqF (by omega))) rfl ?_ | refine op_y (y_eq rfl rfl rfl) rfl ?_
 refine op_nil ?_
 refine ent_then ?_
 refine cd_iff rfl ?_
 refine cd_skip ?_
 refine ent_then ?_
 refine cd_region [0, 0, 0, 0, 1, 0, 2, 2, 0, 0, 2] ?_
 refine op_y (y_move rfl) rfl ?_
 refine op_y (y_move rfl) rfl ?_
 first | refine op_y (y_nil rfl) rfl ?_ | refine op_y (y_nili rfl) rfl ?_ | refine op_y (y_nilf rfl) rfl ?_
 first | refine op_y (y_fld New.fo_312_2 rfl) rfl ?_ | refine op_y (y_flda New.fo_312_2 rfl) rfl ?_
 apply op_ld New.sc_264 rfl rfl
 ·exact rm
 ·rfl
 refine op_y (y_move rfl) rfl ?_
 apply op_bslice New.sl_264 New.ze_22 rfl rfl rfl rfl rfl
 ·(first | ((try simp [fillL, splice, Value.cells, Fl.cs, Nat.zero, fl2c]) <;> rfl) | rfl)
 intro b50
 apply op_append New.sl_264 New.ze_22 rfl rfl rfl (by decide) rfl
 ·exact rm
 ·(apply rds_all; exact rm)
 ·first | rfl | simp
 ·first | rfl | simp [ones]
 ·omega
 ·omega
 ·omega
 intro A51 c51
 first | refine op_y (y_nil rfl) rfl ?_ | refine op_y (y_nili rfl) rfl ?_ | refine op_y (y_nilf rfl) rfl ?_
 first | refine op_y (y_fld New.fo_312_2 rfl) rfl ?_ | refine op_y (y_flda New.fo_312_2 rfl) rfl ?_
 apply op_st1 New.sz_264 rfl rfl rfl
 ·exact rm
 ·rfl
 ·(first | ((try simp only [zz, splice, Nat.reduceAdd, Nat.zero_mul, Fl.cs, Nat.zero, fl2c]) <;> rfl) | rfl)
 refine op_nil ?_
 refine ent_block ?_
 refine ent_then ?_
 refine cd_region [0, 0] ?_
 first | refine op_y (y_add rfl rfl (wi64 (by omega) (by omega))) rfl ?_ | refine op_y (y_add rfl rfl rfl) rfl ?_
 refine op_y (y_move rfl) rfl ?_
 refine op_nil ?_
 refine ent_round ?_
 refine cd_seq ?_
 refine cd_region [0] ?_
 first | refine op_y (y_lt rfl rfl (decide_eq_true (by omega))) rfl ?_ | refine op_y (y_lt rfl rfl (decide_eq_false (by omega))) rfl ?_ | refine op_y (y_lt rfl rfl rfl) rfl ?_
 refine op_nil ?_
 refine ent_then ?_
 refine cd_seq ?_
 refine cd_iff rfl ?_
 refine cd_exit ?_
 refine ent_thn_exit ?_
 refine ent_then_exit ?_
 refine ent_block_exit ?_
 refine ent_then ?_
 refine cd_seq ?_
 refine cd_region [0, 0, 0] ?_
 refine op_y (y_move rfl) rfl ?_
 refine op_y (y_assign rfl) rfl ?_
 refine op_y (y_assign rfl) rfl ?_
 refine op_nil ?_
 refine ent_then ?_
 refine cd_ret ?_
 refine ent_ret2 rfl rfl rfl ⟨_, ⟨b33, rfl, rfl⟩, fun w h => rankI_shut ⟨A, k, A51, c51⟩ ?_⟩
 show Sat [pt b33 312 [.int .i64 kd, .slice A 2 k, .slice A51 2 c51, .int .u64 0], ownS 197 5 A 2 k fl2c, ownS 22 1 A51 2 c51 [.int .u64 0, .int .u64 0], pt bf 197 fl2c] c w
 replace h : Sat [pt b33 312 [.int .i64 kd, .slice A 2 k, .slice A51 2 c51, .int .u64 0], ownS 22 1 A51 2 c51 [.int .u64 0, .int .u64 0], pt b50 22 [.int .u64 0], pt b8 197 _, pt _ 22 _, pt _ 197 _, ownS 197 5 A 2 k fl2c, pt bf 197 fl2c] c w := h
 apply Sat.only (h := h)
 exact sx
end Go.Proofs.YtfkadaodnaaceaaGreatDoor
/- What a configuration of two flows makes: a bucket, a gate. -/
namespace Go.Proofs.YtfkadaodnaaceaaGreatDoor
open Go Go.SL
theorem New2.ag_25 : aggK Tryz.prog 25 = some 11 := by kernel_rfl
theorem New2.ag_197 : aggK Tryz.prog 197 = some 5 := by kernel_rfl
theorem New2.ca_91 : callable Tryz.prog 91 = true := by kernel_rfl
theorem New2.ca_99 : callable Tryz.prog 99 = true := by kernel_rfl
theorem New2.ca_150 : callable Tryz.prog 150 = true := by kernel_rfl
theorem New2.ca_151 : callable Tryz.prog 151 = true := by kernel_rfl
theorem New2.fo_25_0 : fieldOff Tryz.prog 25 0 = some 0 := by kernel_rfl
theorem New2.fo_25_1 : fieldOff Tryz.prog 25 1 = some 1 := by kernel_rfl
theorem New2.fo_25_2 : fieldOff Tryz.prog 25 2 = some 2 := by kernel_rfl
theorem New2.fo_25_3 : fieldOff Tryz.prog 25 3 = some 3 := by kernel_rfl
theorem New2.fo_25_4 : fieldOff Tryz.prog 25 4 = some 4 := by kernel_rfl
theorem New2.fo_25_5 : fieldOff Tryz.prog 25 5 = some 5 := by kernel_rfl
theorem New2.fo_25_6 : fieldOff Tryz.prog 25 6 = some 6 := by kernel_rfl
theorem New2.fo_25_7 : fieldOff Tryz.prog 25 7 = some 7 := by kernel_rfl
theorem New2.fo_25_8 : fieldOff Tryz.prog 25 8 = some 8 := by kernel_rfl
theorem New2.fo_25_9 : fieldOff Tryz.prog 25 9 = some 9 := by kernel_rfl
theorem New2.fo_25_10 : fieldOff Tryz.prog 25 10 = some 10 := by kernel_rfl
theorem New2.fo_197_0 : fieldOff Tryz.prog 197 0 = some 0 := by kernel_rfl
theorem New2.fo_197_4 : fieldOff Tryz.prog 197 4 = some 4 := by kernel_rfl
theorem New2.pl_305 : placesK Tryz.prog 305 = some [(0, 2), (2, 1)] := by kernel_rfl
theorem New2.pl_308 : placesK Tryz.prog 308 = some [(0, 11), (11, 2), (13, 1)] := by kernel_rfl
theorem New2.sc_3 : scalarT Tryz.prog 3 = true := by kernel_rfl
theorem New2.sc_22 : scalarT Tryz.prog 22 = true := by kernel_rfl
theorem New2.sc_23 : scalarT Tryz.prog 23 = true := by kernel_rfl
theorem New2.sc_42 : scalarT Tryz.prog 42 = true := by kernel_rfl
theorem New2.sl_23 : sliceK Tryz.prog 23 = some (197, 5, 40) := by kernel_rfl
theorem New2.sz_23 : sizeK Tryz.prog 23 = some 1 := by kernel_rfl
theorem New2.sz_197 : sizeK Tryz.prog 197 = some 5 := by kernel_rfl
theorem New2.un_23 : Tryz.prog.underlying 23 = some (.slice 197) := by kernel_rfl
theorem New2.ze_197 : zeroC Tryz.prog 197 = some [.int .u32 0, .int .u64 0, .int .u64 0, .int .u64 0, .int .u64 0] := by kernel_rfl
theorem New2.ze_305 : zeroC Tryz.prog 305 = some [.int .i64 0, .int .u64 0, .int .u64 0] := by kernel_rfl
theorem New2.ze_308 : zeroC Tryz.prog 308 = some [.int .i64 0, .int .i64 0, .int .i64 0, .int .i64 0, .int .i64 0, .int .u64 0, .int .i64 0, .int .u64 0, .int .u64 0, .int .u64 0, .slice none 0 0, .int .i64 0, .int .u64 0, .pointer none] := by kernel_rfl
set_option maxRecDepth 100000
set_option maxHeartbeats 1000000
abbrev cfc (kd bk bf : Nat) : List Value := [.int .i64 kd, .int .i64 bk, .int .i64 1, .int .i64 2, .int .i64 9, .int .u64 5000, .int .i64 0, .int .u64 1000, .int .u64 1000, .int .u64 1000, .slice (some ⟨bf, 0, none⟩) 2 2]
theorem aCheck_ct (c : Cx) (kd bk bf : Nat) : Ct Tryz.prog 99 #[.agg (cfc kd bk bf).toArray] c [pt bf 197 fl2c] fun v L => v = .int .i64 0 ∧ L = [pt bf 197 fl2c] := by
 refine ct_fn (args := [.agg (cfc kd bk bf).toArray]) [(0, .agg (cfc kd bk bf).toArray)] Tryz.func99 rfl Tryz.ntmps99 rfl ⟨rfl, trivial⟩ ?_
 refine cd_seq ?_
 refine cd_region [2, 0] ?_
 refine op_boxa rfl rfl fun b1 => ?_
 refine op_y (y_assign rfl) rfl ?_
 refine op_nil ?_
 refine ent_then ?_
 refine cd_seq ?_
 refine cd_seq ?_
 refine cd_region [0, 1, 0, 0, 0, 1, 0, 0, 0, 0, 1, 0, 0, 0, 0, 1, 0, 0, 0, 0, 1, 0, 0] ?_
 first | refine op_y (y_fld New2.fo_25_4 rfl) rfl ?_ | refine op_y (y_flda New2.fo_25_4 rfl) rfl ?_
 apply op_ld New2.sc_3 rfl rfl
 ·exact rm
 ·rfl
 first | refine op_y (y_lt rfl rfl (decide_eq_true (by omega))) rfl ?_ | refine op_y (y_lt rfl rfl (decide_eq_false (by omega))) rfl ?_ | refine op_y (y_lt rfl rfl rfl) rfl ?_
 refine op_y (y_move rfl) rfl ?_
 first
  | refine op_s1 rfl rfl ⟨rfl, rfl⟩ ?_
  | refine op_s2 rfl rfl ⟨rfl, rfl⟩ ?_
  | (refine op_g rfl rfl ?_
     first | refine op_y (y_fld New2.fo_25_4 rfl) rfl ?_ | refine op_y (y_flda New2.fo_25_4 rfl) rfl ?_)
 first
  | refine op_s1 rfl rfl ⟨rfl, rfl⟩ ?_
  | refine op_s2 rfl rfl ⟨rfl, rfl⟩ ?_
  | (refine op_g rfl rfl ?_
     apply op_ld New2.sc_3 rfl rfl
     ·exact rm
     ·rfl)
 first
  | refine op_s1 rfl rfl ⟨rfl, rfl⟩ ?_
  | refine op_s2 rfl rfl ⟨rfl, rfl⟩ ?_
  | (refine op_g rfl rfl ?_
     first | refine op_y (y_gt rfl rfl (decide_eq_true (by omega))) rfl ?_ | refine op_y (y_gt rfl rfl (decide_eq_false (by omega))) rfl ?_ | refine op_y (y_gt rfl rfl rfl) rfl ?_)
 first | refine op_y (y_pickt rfl rfl) rfl ?_ | refine op_y (y_pickf rfl rfl) rfl ?_ | refine op_y (y_pick rfl rfl rfl) rfl ?_
 refine op_y (y_move rfl) rfl ?_
 first
  | refine op_s1 rfl rfl ⟨rfl, rfl⟩ ?_
  | refine op_s2 rfl rfl ⟨rfl, rfl⟩ ?_
  | (refine op_g rfl rfl ?_
     first | refine op_y (y_fld New2.fo_25_5 rfl) rfl ?_ | refine op_y (y_flda New2.fo_25_5 rfl) rfl ?_)
 first
  | refine op_s1 rfl rfl ⟨rfl, rfl⟩ ?_
  | refine op_s2 rfl rfl ⟨rfl, rfl⟩ ?_
  | (refine op_g rfl rfl ?_
     apply op_ld New2.sc_22 rfl rfl
     ·exact rm
     ·rfl)
 first
  | refine op_s1 rfl rfl ⟨rfl, rfl⟩ ?_
  | refine op_s2 rfl rfl ⟨rfl, rfl⟩ ?_
  | (refine op_g rfl rfl ?_
     first | refine op_y (y_eq rfl rfl (eqT (by omega))) rfl ?_ | refine op_y (y_eq rfl rfl (eqF (by omega))) rfl ?_ | refine op_y (y_eq rfl rfl rfl) rfl ?_)
 first | refine op_y (y_pickt rfl rfl) rfl ?_ | refine op_y (y_pickf rfl rfl) rfl ?_ | refine op_y (y_pick rfl rfl rfl) rfl ?_
 refine op_y (y_move rfl) rfl ?_
 first
  | refine op_s1 rfl rfl ⟨rfl, rfl⟩ ?_
  | refine op_s2 rfl rfl ⟨rfl, rfl⟩ ?_
  | (refine op_g rfl rfl ?_
     first | refine op_y (y_fld New2.fo_25_6 rfl) rfl ?_ | refine op_y (y_flda New2.fo_25_6 rfl) rfl ?_)
 first
  | refine op_s1 rfl rfl ⟨rfl, rfl⟩ ?_
  | refine op_s2 rfl rfl ⟨rfl, rfl⟩ ?_
  | (refine op_g rfl rfl ?_
     apply op_ld New2.sc_3 rfl rfl
     ·exact rm
     ·rfl)
 first
  | refine op_s1 rfl rfl ⟨rfl, rfl⟩ ?_
  | refine op_s2 rfl rfl ⟨rfl, rfl⟩ ?_
  | (refine op_g rfl rfl ?_
     first | refine op_y (y_lt rfl rfl (decide_eq_true (by omega))) rfl ?_ | refine op_y (y_lt rfl rfl (decide_eq_false (by omega))) rfl ?_ | refine op_y (y_lt rfl rfl rfl) rfl ?_)
 first | refine op_y (y_pickt rfl rfl) rfl ?_ | refine op_y (y_pickf rfl rfl) rfl ?_ | refine op_y (y_pick rfl rfl rfl) rfl ?_
 refine op_y (y_move rfl) rfl ?_
 first
  | refine op_s1 rfl rfl ⟨rfl, rfl⟩ ?_
  | refine op_s2 rfl rfl ⟨rfl, rfl⟩ ?_
  | (refine op_g rfl rfl ?_
     first | refine op_y (y_fld New2.fo_25_6 rfl) rfl ?_ | refine op_y (y_flda New2.fo_25_6 rfl) rfl ?_)
 first
  | refine op_s1 rfl rfl ⟨rfl, rfl⟩ ?_
  | refine op_s2 rfl rfl ⟨rfl, rfl⟩ ?_
  | (refine op_g rfl rfl ?_
     apply op_ld New2.sc_3 rfl rfl
     ·exact rm
     ·rfl)
 first
  | refine op_s1 rfl rfl ⟨rfl, rfl⟩ ?_
  | refine op_s2 rfl rfl ⟨rfl, rfl⟩ ?_
  | (refine op_g rfl rfl ?_
     first | refine op_y (y_gt rfl rfl (decide_eq_true (by omega))) rfl ?_ | refine op_y (y_gt rfl rfl (decide_eq_false (by omega))) rfl ?_ | refine op_y (y_gt rfl rfl rfl) rfl ?_)
 first | refine op_y (y_pickt rfl rfl) rfl ?_ | refine op_y (y_pickf rfl rfl) rfl ?_ | refine op_y (y_pick rfl rfl rfl) rfl ?_
 refine op_nil ?_
 refine ent_then ?_
 refine cd_iff rfl ?_
 refine cd_skip ?_
 refine ent_then ?_
 refine cd_seq ?_
 refine cd_seq ?_
 refine cd_draw ([]) [0, 1, 2, 3, 4, 5] [0, 1, 0, 1, 0, 0] mixed_ (by kernel_rfl) ?_
 first | refine op_y (y_fld New2.fo_25_5 rfl) rfl ?_ | refine op_y (y_flda New2.fo_25_5 rfl) rfl ?_
 apply op_ld New2.sc_22 rfl rfl
 ·exact rm
 ·rfl
 first | refine op_y (y_fld New2.fo_25_6 rfl) rfl ?_ | refine op_y (y_flda New2.fo_25_6 rfl) rfl ?_
 apply op_ld New2.sc_3 rfl rfl
 ·exact rm
 ·rfl
 refine op_y (y_shrr (a := 18446744073709551615) (b := 0) 18446744073709551615 rfl rfl rfl rfl (by decide) rfl) rfl ?_
 first | refine op_y (y_gt rfl rfl (decide_eq_true (by omega))) rfl ?_ | refine op_y (y_gt rfl rfl (decide_eq_false (by omega))) rfl ?_ | refine op_y (y_gt rfl rfl rfl) rfl ?_
 refine op_nil ?_
 refine ent_then ?_
 refine cd_iff rfl ?_
 refine cd_skip ?_
 refine ent_then ?_
 refine cd_seq ?_
 refine cd_seq ?_
 refine cd_region [0, 1, 0, 0, 0, 1, 0, 0] ?_
 first | refine op_y (y_fld New2.fo_25_7 rfl) rfl ?_ | refine op_y (y_flda New2.fo_25_7 rfl) rfl ?_
 apply op_ld New2.sc_22 rfl rfl
 ·exact rm
 ·rfl
 first | refine op_y (y_lt rfl rfl (decide_eq_true (by omega))) rfl ?_ | refine op_y (y_lt rfl rfl (decide_eq_false (by omega))) rfl ?_ | refine op_y (y_lt rfl rfl rfl) rfl ?_
 refine op_y (y_move rfl) rfl ?_
 first
  | refine op_s1 rfl rfl ⟨rfl, rfl⟩ ?_
  | refine op_s2 rfl rfl ⟨rfl, rfl⟩ ?_
  | (refine op_g rfl rfl ?_
     first | refine op_y (y_fld New2.fo_25_7 rfl) rfl ?_ | refine op_y (y_flda New2.fo_25_7 rfl) rfl ?_)
 first
  | refine op_s1 rfl rfl ⟨rfl, rfl⟩ ?_
  | refine op_s2 rfl rfl ⟨rfl, rfl⟩ ?_
  | (refine op_g rfl rfl ?_
     apply op_ld New2.sc_22 rfl rfl
     ·exact rm
     ·rfl)
 first
  | refine op_s1 rfl rfl ⟨rfl, rfl⟩ ?_
  | refine op_s2 rfl rfl ⟨rfl, rfl⟩ ?_
  | (refine op_g rfl rfl ?_
     first | refine op_y (y_gt rfl rfl (decide_eq_true (by omega))) rfl ?_ | refine op_y (y_gt rfl rfl (decide_eq_false (by omega))) rfl ?_ | refine op_y (y_gt rfl rfl rfl) rfl ?_)
 first | refine op_y (y_pickt rfl rfl) rfl ?_ | refine op_y (y_pickf rfl rfl) rfl ?_ | refine op_y (y_pick rfl rfl rfl) rfl ?_
 refine op_nil ?_
 refine ent_then ?_
 refine cd_iff rfl ?_
 refine cd_skip ?_
 refine ent_then ?_
 refine cd_seq ?_
 refine cd_region [0, 1, 2, 0, 0, 0, 0, 0] ?_
 first | refine op_y (y_fld New2.fo_25_10 rfl) rfl ?_ | refine op_y (y_flda New2.fo_25_10 rfl) rfl ?_
 apply op_ld New2.sc_23 rfl rfl
 ·exact rm
 ·rfl
 apply op_c New2.ca_91 rfl rfl (fun e he_ => rNew_ct e bf 2 (.inr rfl))
 ·exact sx
 rintro _ _ ⟨r, rfl, rfl⟩ G_ hG_
 simp only [zn] at hG_; subst hG_
 refine op_y (y_move rfl) rfl ?_
 first | refine op_y (y_extl rfl rfl) rfl ?_ | refine op_y (y_ext rfl rfl) rfl ?_
 first | refine op_y (y_extl rfl rfl) rfl ?_ | refine op_y (y_ext rfl rfl) rfl ?_
 refine op_y (y_assign rfl) rfl ?_
 refine op_y (y_assign rfl) rfl ?_
 refine op_nil ?_
 refine ent_then ?_
 refine cd_seq ?_
 refine cd_region [0, 0] ?_
 refine op_y (y_move rfl) rfl ?_
 refine op_y (y_assign rfl) rfl ?_
 refine op_nil ?_
 refine ent_then ?_
 refine cd_ret ?_
 refine ent_ret1 rfl rfl ⟨_, ⟨rfl, rfl⟩, fun w h => ?_⟩
 apply Sat.only (h := h)
 exact sx
theorem cCheck_ct (c : Cx) (kd bk bf : Nat) (hkd : kd = 1 ∨ kd = 2) (hbk : bk = 1 ∨ bk = 2) : Ct Tryz.prog 52 #[.agg (cfc kd bk bf).toArray] c [pt bf 197 fl2c] fun v L => v = .int .i64 0 ∧ L = [pt bf 197 fl2c] := by
 have hk1 : 1 ≤ kd := by omega
 have hk2 : kd ≤ 2 := by omega
 have hk3 : 1 ≤ bk := by omega
 have hk4 : bk ≤ 2 := by omega
 refine ct_fn (args := [.agg (cfc kd bk bf).toArray]) [(0, .agg (cfc kd bk bf).toArray)] Tryz.func52 rfl Tryz.ntmps52 rfl ⟨rfl, trivial⟩ ?_
 refine cd_seq ?_
 refine cd_region [2, 0] ?_
 refine op_boxa rfl rfl fun b1 => ?_
 refine op_y (y_assign rfl) rfl ?_
 refine op_nil ?_
 refine ent_then ?_
 refine cd_seq ?_
 refine cd_block ?_
 refine cd_seq ?_
 refine cd_seq ?_
 refine cd_region [0, 1, 0, 0, 0, 1, 0, 0, 0] ?_
 first | refine op_y (y_fld0 New2.fo_25_0 rfl) rfl ?_ | refine op_y (y_flda New2.fo_25_0 rfl) rfl ?_
 apply op_ld New2.sc_3 rfl rfl
 ·exact rm
 ·rfl
 first | refine op_y (y_lt rfl rfl (decide_eq_true (by omega))) rfl ?_ | refine op_y (y_lt rfl rfl (decide_eq_false (by omega))) rfl ?_ | refine op_y (y_lt rfl rfl rfl) rfl ?_
 refine op_y (y_move rfl) rfl ?_
 first
  | refine op_s1 rfl rfl ⟨rfl, rfl⟩ ?_
  | refine op_s2 rfl rfl ⟨rfl, rfl⟩ ?_
  | (refine op_g rfl rfl ?_
     first | refine op_y (y_fld0 New2.fo_25_0 rfl) rfl ?_ | refine op_y (y_flda New2.fo_25_0 rfl) rfl ?_)
 first
  | refine op_s1 rfl rfl ⟨rfl, rfl⟩ ?_
  | refine op_s2 rfl rfl ⟨rfl, rfl⟩ ?_
  | (refine op_g rfl rfl ?_
     apply op_ld New2.sc_3 rfl rfl
     ·exact rm
     ·rfl)
 first
  | refine op_s1 rfl rfl ⟨rfl, rfl⟩ ?_
  | refine op_s2 rfl rfl ⟨rfl, rfl⟩ ?_
  | (refine op_g rfl rfl ?_
     first | refine op_y (y_gt rfl rfl (decide_eq_true (by omega))) rfl ?_ | refine op_y (y_gt rfl rfl (decide_eq_false (by omega))) rfl ?_ | refine op_y (y_gt rfl rfl rfl) rfl ?_)
 first | refine op_y (y_pickt rfl rfl) rfl ?_ | refine op_y (y_pickf rfl rfl) rfl ?_ | refine op_y (y_pick rfl rfl rfl) rfl ?_
 refine op_y (y_assign rfl) rfl ?_
 refine op_nil ?_
 refine ent_then ?_
 refine cd_iff rfl ?_
 refine cd_region [0, 1, 0, 0, 0, 1, 0, 0, 0] ?_
 first | refine op_y (y_fld New2.fo_25_1 rfl) rfl ?_ | refine op_y (y_flda New2.fo_25_1 rfl) rfl ?_
 apply op_ld New2.sc_3 rfl rfl
 ·exact rm
 ·rfl
 first | refine op_y (y_lt rfl rfl (decide_eq_true (by omega))) rfl ?_ | refine op_y (y_lt rfl rfl (decide_eq_false (by omega))) rfl ?_ | refine op_y (y_lt rfl rfl rfl) rfl ?_
 refine op_y (y_move rfl) rfl ?_
 first
  | refine op_s1 rfl rfl ⟨rfl, rfl⟩ ?_
  | refine op_s2 rfl rfl ⟨rfl, rfl⟩ ?_
  | (refine op_g rfl rfl ?_
     first | refine op_y (y_fld New2.fo_25_1 rfl) rfl ?_ | refine op_y (y_flda New2.fo_25_1 rfl) rfl ?_)
 first
  | refine op_s1 rfl rfl ⟨rfl, rfl⟩ ?_
  | refine op_s2 rfl rfl ⟨rfl, rfl⟩ ?_
  | (refine op_g rfl rfl ?_
     apply op_ld New2.sc_3 rfl rfl
     ·exact rm
     ·rfl)
 first
  | refine op_s1 rfl rfl ⟨rfl, rfl⟩ ?_
  | refine op_s2 rfl rfl ⟨rfl, rfl⟩ ?_
  | (refine op_g rfl rfl ?_
     first | refine op_y (y_gt rfl rfl (decide_eq_true (by omega))) rfl ?_ | refine op_y (y_gt rfl rfl (decide_eq_false (by omega))) rfl ?_ | refine op_y (y_gt rfl rfl rfl) rfl ?_)
 first | refine op_y (y_pickt rfl rfl) rfl ?_ | refine op_y (y_pickf rfl rfl) rfl ?_ | refine op_y (y_pick rfl rfl rfl) rfl ?_
 refine op_y (y_assign rfl) rfl ?_
 refine op_nil ?_
 refine ent_then ?_
 refine cd_iff rfl ?_
 refine cd_seq ?_
 refine cd_region [0, 1, 0, 0, 0, 1, 0, 0, 0] ?_
 first | refine op_y (y_fld New2.fo_25_2 rfl) rfl ?_ | refine op_y (y_flda New2.fo_25_2 rfl) rfl ?_
 apply op_ld New2.sc_3 rfl rfl
 ·exact rm
 ·rfl
 first | refine op_y (y_lt rfl rfl (decide_eq_true (by omega))) rfl ?_ | refine op_y (y_lt rfl rfl (decide_eq_false (by omega))) rfl ?_ | refine op_y (y_lt rfl rfl rfl) rfl ?_
 refine op_y (y_move rfl) rfl ?_
 first
  | refine op_s1 rfl rfl ⟨rfl, rfl⟩ ?_
  | refine op_s2 rfl rfl ⟨rfl, rfl⟩ ?_
  | (refine op_g rfl rfl ?_
     first | refine op_y (y_fld New2.fo_25_2 rfl) rfl ?_ | refine op_y (y_flda New2.fo_25_2 rfl) rfl ?_)
 first
  | refine op_s1 rfl rfl ⟨rfl, rfl⟩ ?_
  | refine op_s2 rfl rfl ⟨rfl, rfl⟩ ?_
  | (refine op_g rfl rfl ?_
     apply op_ld New2.sc_3 rfl rfl
     ·exact rm
     ·rfl)
 first
  | refine op_s1 rfl rfl ⟨rfl, rfl⟩ ?_
  | refine op_s2 rfl rfl ⟨rfl, rfl⟩ ?_
  | (refine op_g rfl rfl ?_
     first | refine op_y (y_gt rfl rfl (decide_eq_true (by omega))) rfl ?_ | refine op_y (y_gt rfl rfl (decide_eq_false (by omega))) rfl ?_ | refine op_y (y_gt rfl rfl rfl) rfl ?_)
 first | refine op_y (y_pickt rfl rfl) rfl ?_ | refine op_y (y_pickf rfl rfl) rfl ?_ | refine op_y (y_pick rfl rfl rfl) rfl ?_
 refine op_y (y_assign rfl) rfl ?_
 refine op_nil ?_
 refine ent_then ?_
 refine cd_iff rfl ?_
 refine cd_seq ?_
 refine cd_region [0, 1, 0, 0, 0, 1, 0, 0, 0] ?_
 first | refine op_y (y_fld New2.fo_25_3 rfl) rfl ?_ | refine op_y (y_flda New2.fo_25_3 rfl) rfl ?_
 apply op_ld New2.sc_3 rfl rfl
 ·exact rm
 ·rfl
 first | refine op_y (y_lt rfl rfl (decide_eq_true (by omega))) rfl ?_ | refine op_y (y_lt rfl rfl (decide_eq_false (by omega))) rfl ?_ | refine op_y (y_lt rfl rfl rfl) rfl ?_
 refine op_y (y_move rfl) rfl ?_
 first
  | refine op_s1 rfl rfl ⟨rfl, rfl⟩ ?_
  | refine op_s2 rfl rfl ⟨rfl, rfl⟩ ?_
  | (refine op_g rfl rfl ?_
     first | refine op_y (y_fld New2.fo_25_3 rfl) rfl ?_ | refine op_y (y_flda New2.fo_25_3 rfl) rfl ?_)
 first
  | refine op_s1 rfl rfl ⟨rfl, rfl⟩ ?_
  | refine op_s2 rfl rfl ⟨rfl, rfl⟩ ?_
  | (refine op_g rfl rfl ?_
     apply op_ld New2.sc_3 rfl rfl
     ·exact rm
     ·rfl)
 first
  | refine op_s1 rfl rfl ⟨rfl, rfl⟩ ?_
  | refine op_s2 rfl rfl ⟨rfl, rfl⟩ ?_
  | (refine op_g rfl rfl ?_
     first | refine op_y (y_gt rfl rfl (decide_eq_true (by omega))) rfl ?_ | refine op_y (y_gt rfl rfl (decide_eq_false (by omega))) rfl ?_ | refine op_y (y_gt rfl rfl rfl) rfl ?_)
 first | refine op_y (y_pickt rfl rfl) rfl ?_ | refine op_y (y_pickf rfl rfl) rfl ?_ | refine op_y (y_pick rfl rfl rfl) rfl ?_
 refine op_y (y_assign rfl) rfl ?_
 refine op_nil ?_
 refine ent_then ?_
 refine cd_iff rfl ?_
 refine cd_skip ?_
 refine ent_block ?_
 refine ent_then ?_
 refine cd_seq ?_
 refine cd_seq ?_
 refine cd_region [1, 2, 0] ?_
 apply op_lda New2.ag_25 rfl rfl
 ·exact rm
 ·(first | ((try simp only [zz, splice, Nat.reduceAdd, Nat.zero_mul, Fl.cs, Nat.zero, fl2c, cfc]) <;> rfl) | rfl)
 ·rfl
 apply op_c New2.ca_99 rfl rfl (fun e he_ => aCheck_ct e kd bk bf)
 ·exact sx
 rintro _ _ ⟨rfl, rfl⟩ G_ hG_
 simp only [zn] at hG_; subst hG_
 refine op_y (y_assign rfl) rfl ?_
 refine op_nil ?_
 refine ent_then ?_
 refine cd_seq ?_
 refine cd_region [0, 0] ?_
 refine op_y (y_move rfl) rfl ?_
 first | refine op_y (y_ne rfl rfl (neT (by omega))) rfl ?_ | refine op_y (y_ne rfl rfl (neF (by omega))) rfl ?_ | refine op_y (y_ne rfl rfl rfl) rfl ?_
 refine op_nil ?_
 refine ent_then ?_
 refine cd_iff rfl ?_
 refine cd_skip ?_
 refine ent_then ?_
 refine cd_seq ?_
 refine cd_block ?_
 refine cd_seq ?_
 refine cd_region [0, 1, 0, 0] ?_
 first | refine op_y (y_fld New2.fo_25_8 rfl) rfl ?_ | refine op_y (y_flda New2.fo_25_8 rfl) rfl ?_
 apply op_ld New2.sc_22 rfl rfl
 ·exact rm
 ·rfl
 first | refine op_y (y_eq rfl rfl (eqT (by omega))) rfl ?_ | refine op_y (y_eq rfl rfl (eqF (by omega))) rfl ?_ | refine op_y (y_eq rfl rfl rfl) rfl ?_
 refine op_y (y_assign rfl) rfl ?_
 refine op_nil ?_
 refine ent_then ?_
 refine cd_iff rfl ?_
 refine cd_seq ?_
 refine cd_region [0, 1, 0, 1, 0, 0] ?_
 first | refine op_y (y_fld New2.fo_25_9 rfl) rfl ?_ | refine op_y (y_flda New2.fo_25_9 rfl) rfl ?_
 apply op_ld New2.sc_22 rfl rfl
 ·exact rm
 ·rfl
 first | refine op_y (y_fld New2.fo_25_7 rfl) rfl ?_ | refine op_y (y_flda New2.fo_25_7 rfl) rfl ?_
 apply op_ld New2.sc_22 rfl rfl
 ·exact rm
 ·rfl
 first | refine op_y (y_lt rfl rfl (decide_eq_true (by omega))) rfl ?_ | refine op_y (y_lt rfl rfl (decide_eq_false (by omega))) rfl ?_ | refine op_y (y_lt rfl rfl rfl) rfl ?_
 refine op_y (y_assign rfl) rfl ?_
 refine op_nil ?_
 refine ent_then ?_
 refine cd_iff rfl ?_
 refine cd_skip ?_
 refine ent_block ?_
 refine ent_then ?_
 refine cd_seq ?_
 refine cd_region [0] ?_
 refine op_y (y_assign rfl) rfl ?_
 refine op_nil ?_
 refine ent_then ?_
 refine cd_ret ?_
 refine ent_ret1 rfl rfl ⟨_, ⟨rfl, rfl⟩, fun w h => ?_⟩
 apply Sat.only (h := h)
 exact sx
theorem home2 : homeN 2 = 6 := by decide
theorem aNew_ct (c : Cx) (kd bk bf : Nat) : Ct Tryz.prog 90 #[.agg (cfc kd bk bf).toArray] c [pt bf 197 fl2c] fun v L => ∃ g, v = .tuple #[.pointer (some ⟨g, 0, none⟩), .int .i64 0] ∧ L = [gateI g kd bk 0 0, pt bf 197 fl2c] := by
 refine ct_fn (args := [.agg (cfc kd bk bf).toArray]) [(0, .agg (cfc kd bk bf).toArray)] Tryz.func90 rfl Tryz.ntmps90 rfl ⟨rfl, trivial⟩ ?_
 refine cd_seq ?_
 refine cd_region [2, 0, 0] ?_
 refine op_boxa rfl rfl fun b1 => ?_
 refine op_y (y_assign rfl) rfl ?_
 refine op_y (y_assign rfl) rfl ?_
 refine op_nil ?_
 refine ent_then ?_
 refine cd_seq ?_
 refine cd_seq ?_
 refine cd_region [1, 2, 0] ?_
 apply op_lda New2.ag_25 rfl rfl
 ·exact rm
 ·(first | ((try simp only [zz, splice, Nat.reduceAdd, Nat.zero_mul, Fl.cs, Nat.zero, fl2c, cfc]) <;> rfl) | rfl)
 ·rfl
 apply op_c New2.ca_99 rfl rfl (fun e he_ => aCheck_ct e kd bk bf)
 ·exact sx
 rintro _ _ ⟨rfl, rfl⟩ G_ hG_
 simp only [zn] at hG_; subst hG_
 refine op_y (y_assign rfl) rfl ?_
 refine op_nil ?_
 refine ent_then ?_
 refine cd_seq ?_
 refine cd_region [0, 0] ?_
 refine op_y (y_move rfl) rfl ?_
 first | refine op_y (y_ne rfl rfl (neT (by omega))) rfl ?_ | refine op_y (y_ne rfl rfl (neF (by omega))) rfl ?_ | refine op_y (y_ne rfl rfl rfl) rfl ?_
 refine op_nil ?_
 refine ent_then ?_
 refine cd_iff rfl ?_
 refine cd_skip ?_
 refine ent_then ?_
 refine cd_seq ?_
 refine cd_region [2, 0, 0, 0, 0, 0] ?_
 apply op_c New2.ca_150 rfl rfl (fun e he_ => tNew_ct e)
 ·exact sx
 rintro _ _ ⟨p, b, rfl, rfl⟩ G_ hG_
 simp only [zn] at hG_; subst hG_
 refine op_y (y_move rfl) rfl ?_
 first | refine op_y (y_extl rfl rfl) rfl ?_ | refine op_y (y_ext rfl rfl) rfl ?_
 first | refine op_y (y_extl rfl rfl) rfl ?_ | refine op_y (y_ext rfl rfl) rfl ?_
 refine op_y (y_assign rfl) rfl ?_
 refine op_y (y_assign rfl) rfl ?_
 refine op_nil ?_
 refine ent_then ?_
 refine cd_seq ?_
 refine cd_seq ?_
 refine cd_region [0, 1, 0, 0] ?_
 first | refine op_y (y_fld New2.fo_25_10 rfl) rfl ?_ | refine op_y (y_flda New2.fo_25_10 rfl) rfl ?_
 apply op_ld New2.sc_23 rfl rfl
 ·exact rm
 ·rfl
 refine op_y (y_len New2.un_23 rfl) rfl ?_
 refine op_y (y_move rfl) rfl ?_
 refine op_nil ?_
 refine ent_then ?_
 refine cd_block ?_
 refine cd_rounds 2 ?_
 refine cd_seq ?_
 refine cd_region [0] ?_
 first | refine op_y (y_lt rfl rfl (decide_eq_true (by omega))) rfl ?_ | refine op_y (y_lt rfl rfl (decide_eq_false (by omega))) rfl ?_ | refine op_y (y_lt rfl rfl rfl) rfl ?_
 refine op_nil ?_
 refine ent_then ?_
 refine cd_seq ?_
 refine cd_ift rfl ?_
 refine cd_skip ?_
 refine ent_then ?_
 refine cd_seq ?_
 refine cd_block ?_
 refine cd_seq ?_
 refine cd_region [0, 1, 2, 2] ?_
 first | refine op_y (y_ix0 (j := 0) New2.sl_23 rfl rfl (by omega) (by omega)) rfl ?_ | refine op_y (y_ix (j := 0) New2.sl_23 rfl rfl (by omega) (by omega)) rfl ?_ | refine op_y (y_ixa (j := 0) New2.sl_23 rfl rfl (by omega) (by omega)) rfl ?_
 apply op_lda New2.ag_197 rfl rfl
 ·exact rm
 ·(first | ((try simp only [zz, splice, Nat.reduceAdd, Nat.zero_mul, Fl.cs, Nat.zero, fl2c, cfc]) <;> rfl) | rfl)
 ·rfl
 refine op_alloc New2.ze_197 rfl fun b8 => ?_
 apply op_sta New2.sz_197 rfl rfl rfl rfl
 ·exact rm
 ·simp
 ·(first | ((try simp only [zz, splice, Nat.reduceAdd, Nat.zero_mul, Fl.cs, Nat.zero, fl2c, cfc]) <;> rfl) | rfl)
 refine op_nil ?_
 refine ent_then ?_
 refine cd_region [0, 0, 1, 0, 1, 0, 2] ?_
 refine op_y (y_move rfl) rfl ?_
 first | refine op_y (y_fld0 New2.fo_197_0 rfl) rfl ?_ | refine op_y (y_flda New2.fo_197_0 rfl) rfl ?_
 apply op_ld New2.sc_42 rfl rfl
 ·exact rm
 ·rfl
 first | refine op_y (y_fld New2.fo_197_4 rfl) rfl ?_ | refine op_y (y_flda New2.fo_197_4 rfl) rfl ?_
 apply op_ld New2.sc_22 rfl rfl
 ·exact rm
 ·rfl
 apply op_build New2.pl_305 New2.ze_305 rfl rfl
 ·(first | ((try simp [fillL, splice, Value.cells, Fl.cs, Nat.zero, fl2c, cfc]) <;> rfl) | rfl)
 apply op_c New2.ca_151 rfl rfl (fun e he_ => tPut_ct e p b 0 64 1 (List.replicate 8 ⟨0, false, ⟨0, 0, 0⟩⟩) ⟨0, false, ⟨0, 0, 0⟩⟩ ⟨0, 0, 5000⟩ (by decide) rfl 3 home1 rfl rfl (by decide) (by decide) (by decide))
 ·exact sx
 rintro _ _ ⟨rfl, rfl⟩ G_ hG_
 simp only [zn] at hG_; subst hG_
 refine op_nil ?_
 refine ent_block ?_
 refine ent_then ?_
 refine cd_region [0, 0] ?_
 first | refine op_y (y_add rfl rfl (wi64 (by omega) (by omega))) rfl ?_ | refine op_y (y_add rfl rfl rfl) rfl ?_
 refine op_y (y_move rfl) rfl ?_
 refine op_nil ?_
 refine ent_round ?_
 refine cd_seq ?_
 refine cd_region [0] ?_
 first | refine op_y (y_lt rfl rfl (decide_eq_true (by omega))) rfl ?_ | refine op_y (y_lt rfl rfl (decide_eq_false (by omega))) rfl ?_ | refine op_y (y_lt rfl rfl rfl) rfl ?_
 refine op_nil ?_
 refine ent_then ?_
 refine cd_seq ?_
 refine cd_ift rfl ?_
 refine cd_skip ?_
 refine ent_then ?_
 refine cd_seq ?_
 refine cd_block ?_
 refine cd_seq ?_
 refine cd_region [0, 1, 2, 2] ?_
 first | refine op_y (y_ix0 (j := 1) New2.sl_23 rfl rfl (by omega) (by omega)) rfl ?_ | refine op_y (y_ix (j := 1) New2.sl_23 rfl rfl (by omega) (by omega)) rfl ?_ | refine op_y (y_ixa (j := 1) New2.sl_23 rfl rfl (by omega) (by omega)) rfl ?_
 apply op_lda New2.ag_197 rfl rfl
 ·exact rm
 ·(first | ((try simp only [zz, splice, Nat.reduceAdd, Nat.zero_mul, Fl.cs, Nat.zero, fl2c, cfc]) <;> rfl) | rfl)
 ·rfl
 refine op_alloc New2.ze_197 rfl fun b8 => ?_
 apply op_sta New2.sz_197 rfl rfl rfl rfl
 ·exact rm
 ·simp
 ·(first | ((try simp only [zz, splice, Nat.reduceAdd, Nat.zero_mul, Fl.cs, Nat.zero, fl2c, cfc]) <;> rfl) | rfl)
 refine op_nil ?_
 refine ent_then ?_
 refine cd_region [0, 0, 1, 0, 1, 0, 2] ?_
 refine op_y (y_move rfl) rfl ?_
 first | refine op_y (y_fld0 New2.fo_197_0 rfl) rfl ?_ | refine op_y (y_flda New2.fo_197_0 rfl) rfl ?_
 apply op_ld New2.sc_42 rfl rfl
 ·exact rm
 ·rfl
 first | refine op_y (y_fld New2.fo_197_4 rfl) rfl ?_ | refine op_y (y_flda New2.fo_197_4 rfl) rfl ?_
 apply op_ld New2.sc_22 rfl rfl
 ·exact rm
 ·rfl
 apply op_build New2.pl_305 New2.ze_305 rfl rfl
 ·(first | ((try simp [fillL, splice, Value.cells, Fl.cs, Nat.zero, fl2c, cfc]) <;> rfl) | rfl)
 apply op_c New2.ca_151 rfl rfl (fun e he_ => tPut_ct e p b 1 64 2 ((List.replicate 8 ⟨0, false, ⟨0, 0, 0⟩⟩).set 3 ⟨1, true, ⟨0, 0, 5000⟩⟩) ⟨0, false, ⟨0, 0, 0⟩⟩ ⟨0, 0, 50⟩ (by decide) rfl 6 home2 rfl rfl (by decide) (by decide) (by decide))
 ·exact sx
 rintro _ _ ⟨rfl, rfl⟩ G_ hG_
 simp only [zn] at hG_; subst hG_
 refine op_nil ?_
 refine ent_block ?_
 refine ent_then ?_
 refine cd_region [0, 0] ?_
 first | refine op_y (y_add rfl rfl (wi64 (by omega) (by omega))) rfl ?_ | refine op_y (y_add rfl rfl rfl) rfl ?_
 refine op_y (y_move rfl) rfl ?_
 refine op_nil ?_
 refine ent_round ?_
 refine cd_seq ?_
 refine cd_region [0] ?_
 first | refine op_y (y_lt rfl rfl (decide_eq_true (by omega))) rfl ?_ | refine op_y (y_lt rfl rfl (decide_eq_false (by omega))) rfl ?_ | refine op_y (y_lt rfl rfl rfl) rfl ?_
 refine op_nil ?_
 refine ent_then ?_
 refine cd_seq ?_
 refine cd_iff rfl ?_
 refine cd_exit ?_
 refine ent_thn_exit ?_
 refine ent_then_exit ?_
 refine ent_block_exit ?_
 refine ent_then ?_
 refine cd_seq ?_
 refine cd_region [0, 2] ?_
 first | refine op_y (y_fld New2.fo_25_10 rfl) rfl ?_ | refine op_y (y_flda New2.fo_25_10 rfl) rfl ?_
 apply op_st1 New2.sz_23 rfl rfl rfl
 ·exact rm
 ·rfl
 ·(first | ((try simp only [zz, splice, Nat.reduceAdd, Nat.zero_mul, Fl.cs, Nat.zero, fl2c, cfc]) <;> rfl) | rfl)
 refine op_nil ?_
 refine ent_then ?_
 refine cd_seq ?_
 refine cd_region [1, 0, 0, 2, 0, 0] ?_
 apply op_lda New2.ag_25 rfl rfl
 ·exact rm
 ·(first | ((try simp only [zz, splice, Nat.reduceAdd, Nat.zero_mul, Fl.cs, Nat.zero, fl2c, cfc]) <;> rfl) | rfl)
 ·rfl
 refine op_y (y_move rfl) rfl ?_
 apply op_build New2.pl_308 New2.ze_308 rfl rfl
 ·(first | ((try simp [fillL, splice, Value.cells, Fl.cs, Nat.zero, fl2c, cfc]) <;> rfl) | rfl)
 refine op_boxa rfl rfl fun b37 => ?_
 refine op_y (y_assign rfl) rfl ?_
 refine op_y (y_assign rfl) rfl ?_
 refine op_nil ?_
 refine ent_then ?_
 refine cd_ret ?_
 refine ent_ret2 rfl rfl rfl ⟨_, ⟨_, rfl, rfl⟩, fun w h => gateI_shut p b ?_⟩
 show Sat [pt b37 308 [.int .i64 kd, .int .i64 bk, .int .i64 1, .int .i64 2, .int .i64 9, .int .u64 5000, .int .i64 0, .int .u64 1000, .int .u64 1000, .int .u64 1000, .slice none 0 0, .int .i64 0, .int .u64 0, .pointer (some ⟨p, 0, none⟩)], pt p 368 [.slice (some ⟨b, 0, none⟩) 8 8, .int .i64 ((1 + 1 : Nat) : Int), .int .i64 ((64 : Nat) : Int)], pt b 370 (flat Slot.cs (((List.replicate 8 ⟨0, false, ⟨0, 0, 0⟩⟩).set 3 ⟨1, true, ⟨0, 0, 5000⟩⟩).set 6 ⟨2, true, ⟨0, 0, 50⟩⟩) ++ []), pt bf 197 fl2c] c w
 apply Sat.only (h := h)
 exact sx
end Go.Proofs.YtfkadaodnaaceaaGreatDoor
/- What a configuration of two flows makes: a shaper. -/
namespace Go.Proofs.YtfkadaodnaaceaaGreatDoor
open Go Go.SL
theorem New3.ag_25 : aggK Tryz.prog 25 = some 11 := by kernel_rfl
theorem New3.ag_210 : aggK Tryz.prog 210 = some 3 := by kernel_rfl
theorem New3.ca_52 : callable Tryz.prog 52 = true := by kernel_rfl
theorem New3.ca_89 : callable Tryz.prog 89 = true := by kernel_rfl
theorem New3.ca_90 : callable Tryz.prog 90 = true := by kernel_rfl
theorem New3.ca_91 : callable Tryz.prog 91 = true := by kernel_rfl
theorem New3.ca_92 : callable Tryz.prog 92 = true := by kernel_rfl
theorem New3.ca_147 : callable Tryz.prog 147 = true := by kernel_rfl
theorem New3.ca_148 : callable Tryz.prog 148 = true := by kernel_rfl
theorem New3.ca_154 : callable Tryz.prog 154 = true := by kernel_rfl
theorem New3.fo_25_0 : fieldOff Tryz.prog 25 0 = some 0 := by kernel_rfl
theorem New3.fo_25_1 : fieldOff Tryz.prog 25 1 = some 1 := by kernel_rfl
theorem New3.fo_25_2 : fieldOff Tryz.prog 25 2 = some 2 := by kernel_rfl
theorem New3.fo_25_4 : fieldOff Tryz.prog 25 4 = some 4 := by kernel_rfl
theorem New3.fo_25_8 : fieldOff Tryz.prog 25 8 = some 8 := by kernel_rfl
theorem New3.fo_25_9 : fieldOff Tryz.prog 25 9 = some 9 := by kernel_rfl
theorem New3.fo_25_10 : fieldOff Tryz.prog 25 10 = some 10 := by kernel_rfl
theorem New3.fo_212_0 : fieldOff Tryz.prog 212 0 = some 0 := by kernel_rfl
theorem New3.fo_212_1 : fieldOff Tryz.prog 212 1 = some 1 := by kernel_rfl
theorem New3.fo_212_2 : fieldOff Tryz.prog 212 2 = some 2 := by kernel_rfl
theorem New3.mi_288 : (match Tryz.prog.underlying 288 with | some (.interface _) => false | some _ => true | none => false) = true := by kernel_rfl
theorem New3.mi_293 : (match Tryz.prog.underlying 293 with | some (.interface _) => false | some _ => true | none => false) = true := by kernel_rfl
theorem New3.pl_210 : placesK Tryz.prog 210 = some [(0, 1), (1, 1), (2, 1)] := by kernel_rfl
theorem New3.pl_212 : placesK Tryz.prog 212 = some [(0, 1), (1, 1), (2, 3), (5, 1), (6, 1), (7, 32)] := by kernel_rfl
theorem New3.pl_288 : placesK Tryz.prog 288 = some [(0, 1)] := by kernel_rfl
theorem New3.pl_293 : placesK Tryz.prog 293 = some [(0, 1)] := by kernel_rfl
theorem New3.sc_3 : scalarT Tryz.prog 3 = true := by kernel_rfl
theorem New3.sc_22 : scalarT Tryz.prog 22 = true := by kernel_rfl
theorem New3.sc_23 : scalarT Tryz.prog 23 = true := by kernel_rfl
theorem New3.sz_208 : sizeK Tryz.prog 208 = some 1 := by kernel_rfl
theorem New3.sz_209 : sizeK Tryz.prog 209 = some 1 := by kernel_rfl
theorem New3.sz_210 : sizeK Tryz.prog 210 = some 3 := by kernel_rfl
theorem New3.ze_210 : zeroC Tryz.prog 210 = some [.int .u64 0, .int .u64 0, .int .u64 0] := by kernel_rfl
theorem New3.ze_212 : zeroC Tryz.prog 212 = some [.pointer none, .pointer none, .int .u64 0, .int .u64 0, .int .u64 0, .nilIface, .int .u64 0, .int .u64 0, .int .u64 0, .int .u64 0, .int .u64 0, .int .u64 0, .int .u64 0, .int .u64 0, .int .u64 0, .int .u64 0, .int .u64 0, .int .u64 0, .int .u64 0, .int .u64 0, .int .u64 0, .int .u64 0, .int .u64 0, .int .u64 0, .int .u64 0, .int .u64 0, .int .u64 0, .int .u64 0, .int .u64 0, .int .u64 0, .int .u64 0, .int .u64 0, .int .u64 0, .int .u64 0, .int .u64 0, .int .u64 0, .int .u64 0, .int .u64 0, .int .u64 0] := by kernel_rfl
theorem New3.ze_288 : zeroC Tryz.prog 288 = some [.pointer none] := by kernel_rfl
theorem New3.ze_293 : zeroC Tryz.prog 293 = some [.pointer none] := by kernel_rfl
set_option maxRecDepth 100000
set_option maxHeartbeats 1000000
theorem bCheck1_ct (c : Cx) : Ct Tryz.prog 154 #[.agg [Value.int .u64 1000, .int .u64 1000, .int .u64 1000].toArray] c [] fun v L => v = .int .i64 0 ∧ L = [] := bCheck_ct c ⟨1000, 1000, 1000⟩ ⟨by decide, by decide, by decide, by decide, by decide⟩
theorem bNew_ct (c : Cx) : Ct Tryz.prog 92 #[.int .u64 1000, .int .u64 1000] c [] fun v L => v = .tuple #[.agg [Value.int .u64 1000, .int .u64 1000, .int .u64 1000].toArray, .int .i64 0] ∧ L = [] := by
 refine ct_fn (args := [.int .u64 1000, .int .u64 1000]) [(0, .int .u64 1000), (1, .int .u64 1000)] Tryz.func92 rfl Tryz.ntmps92 rfl ⟨rfl, rfl, trivial⟩ ?_
 refine cd_seq ?_
 refine cd_region [2, 0] ?_
 refine op_alloc New3.ze_210 rfl fun b4 => ?_
 refine op_y (y_assign rfl) rfl ?_
 refine op_nil ?_
 refine ent_then ?_
 refine cd_seq ?_
 refine cd_region [0, 0, 0, 0, 2, 2] ?_
 refine op_y (y_move rfl) rfl ?_
 refine op_y (y_move rfl) rfl ?_
 refine op_y (y_move rfl) rfl ?_
 apply op_build New3.pl_210 New3.ze_210 rfl rfl
 ·(first | ((try simp [fillL, splice, Value.cells, Fl.cs, Nat.zero, fl2c, cfc]) <;> rfl) | rfl)
 refine op_alloc New3.ze_210 rfl fun b6 => ?_
 apply op_sta New3.sz_210 rfl rfl rfl rfl
 ·exact rm
 ·simp
 ·(first | ((try simp only [zz, splice, Nat.reduceAdd, Nat.zero_mul, Fl.cs, Nat.zero, fl2c, cfc]) <;> rfl) | rfl)
 refine op_nil ?_
 refine ent_then ?_
 refine cd_seq ?_
 refine cd_seq ?_
 refine cd_region [1, 2, 0] ?_
 apply op_lda New3.ag_210 rfl rfl
 ·exact rm
 ·(first | ((try simp only [zz, splice, Nat.reduceAdd, Nat.zero_mul, Fl.cs, Nat.zero, fl2c, cfc]) <;> rfl) | rfl)
 ·rfl
 apply op_c New3.ca_154 rfl rfl (fun e he_ => bCheck1_ct e)
 ·exact sx
 rintro _ _ ⟨rfl, rfl⟩ G_ hG_
 simp only [zn] at hG_; subst hG_
 refine op_y (y_assign rfl) rfl ?_
 refine op_nil ?_
 refine ent_then ?_
 refine cd_seq ?_
 refine cd_region [0, 0] ?_
 refine op_y (y_move rfl) rfl ?_
 first | refine op_y (y_ne rfl rfl (neT (by omega))) rfl ?_ | refine op_y (y_ne rfl rfl (neF (by omega))) rfl ?_ | refine op_y (y_ne rfl rfl rfl) rfl ?_
 refine op_nil ?_
 refine ent_then ?_
 refine cd_iff rfl ?_
 refine cd_skip ?_
 refine ent_then ?_
 refine cd_seq ?_
 refine cd_region [1, 2, 0] ?_
 apply op_lda New3.ag_210 rfl rfl
 ·exact rm
 ·(first | ((try simp only [zz, splice, Nat.reduceAdd, Nat.zero_mul, Fl.cs, Nat.zero, fl2c, cfc]) <;> rfl) | rfl)
 ·rfl
 apply op_sta New3.sz_210 rfl rfl rfl rfl
 ·exact rm
 ·simp
 ·(first | ((try simp only [zz, splice, Nat.reduceAdd, Nat.zero_mul, Fl.cs, Nat.zero, fl2c, cfc]) <;> rfl) | rfl)
 refine op_y (y_assign rfl) rfl ?_
 refine op_nil ?_
 refine ent_then ?_
 refine cd_ret ?_
 refine ent_rets (rs := [_, _]) (vs := [.agg [Value.int .u64 1000, .int .u64 1000, .int .u64 1000].toArray, .int .i64 0]) (.inl rfl) rfl ⟨⟨_, rfl, .inr ⟨_, 3, rfl, rfl, rds_all (by exact rm), rfl⟩⟩, rfl, trivial⟩ ⟨_, ⟨rfl, rfl⟩, fun w h => h.nil_of⟩
theorem madeF_ct (c : Cx) (kd bf : Nat) : Ct Tryz.prog 89 #[.agg (cfc kd 1 bf).toArray] c [] fun v L => ∃ p, v = .iface (backT false) (.agg #[.pointer (some ⟨p, 0, none⟩)]) ∧ L = [back false p [] 0] := by
 refine ct_fn (args := [.agg (cfc kd 1 bf).toArray]) [(0, .agg (cfc kd 1 bf).toArray)] Tryz.func89 rfl Tryz.ntmps89 rfl ⟨rfl, trivial⟩ ?_
 refine cd_seq ?_
 refine cd_region [2, 0] ?_
 refine op_boxa rfl rfl fun b1 => ?_
 refine op_y (y_assign rfl) rfl ?_
 refine op_nil ?_
 refine ent_then ?_
 refine cd_seq ?_
 refine cd_seq ?_
 refine cd_region [0, 1] ?_
 first | refine op_y (y_fld New3.fo_25_1 rfl) rfl ?_ | refine op_y (y_flda New3.fo_25_1 rfl) rfl ?_
 apply op_ld New3.sc_3 rfl rfl
 ·exact rm
 ·rfl
 refine op_nil ?_
 refine ent_then ?_
 refine cd_block ?_
 refine cd_seq ?_
 refine cd_region [0, 0] ?_
 first | refine op_y (y_eq rfl rfl (eqT (by omega))) rfl ?_ | refine op_y (y_eq rfl rfl (eqF (by omega))) rfl ?_ | refine op_y (y_eq rfl rfl rfl) rfl ?_
 refine op_y (y_assign rfl) rfl ?_
 refine op_nil ?_
 refine ent_then ?_
 refine cd_ift rfl ?_
 refine cd_seq ?_
 refine cd_region [0, 1, 2, 0, 0, 0, 0, 0] ?_
 first | refine op_y (y_fld New3.fo_25_4 rfl) rfl ?_ | refine op_y (y_flda New3.fo_25_4 rfl) rfl ?_
 apply op_ld New3.sc_3 rfl rfl
 ·exact rm
 ·rfl
 apply op_c New3.ca_147 rfl rfl (fun e he_ => hNew_ct e 9 (by decide) (by decide))
 ·exact sx
 rintro _ _ ⟨p, rfl, rfl⟩ G_ hG_
 simp only [zn] at hG_; subst hG_
 refine op_y (y_move rfl) rfl ?_
 first | refine op_y (y_extl rfl rfl) rfl ?_ | refine op_y (y_ext rfl rfl) rfl ?_
 first | refine op_y (y_extl rfl rfl) rfl ?_ | refine op_y (y_ext rfl rfl) rfl ?_
 refine op_y (y_assign rfl) rfl ?_
 refine op_y (y_assign rfl) rfl ?_
 refine op_nil ?_
 refine ent_then ?_
 refine cd_seq ?_
 refine cd_region [0, 0, 0, 0] ?_
 refine op_y (y_move rfl) rfl ?_
 apply op_build New3.pl_288 New3.ze_288 rfl rfl
 ·(first | ((try simp [fillL, splice, Value.cells, Fl.cs, Nat.zero, fl2c, cfc]) <;> rfl) | rfl)
 refine op_y (y_mki rfl New3.mi_288) rfl ?_
 refine op_y (y_assign rfl) rfl ?_
 refine op_nil ?_
 refine ent_then ?_
 refine cd_ret ?_
 refine ent_block_ret ?_
 refine ent_thn_ret ?_
 refine ent_ret1 rfl rfl ⟨_, ⟨p, rfl, rfl⟩, fun w h => ?_⟩
 rw [back_f]
 apply Sat.only (h := h)
 exact sx
theorem madeT_ct (c : Cx) (kd bf : Nat) : Ct Tryz.prog 89 #[.agg (cfc kd 2 bf).toArray] c [] fun v L => ∃ p, v = .iface (backT true) (.agg #[.pointer (some ⟨p, 0, none⟩)]) ∧ L = [back true p [] 0] := by
 refine ct_fn (args := [.agg (cfc kd 2 bf).toArray]) [(0, .agg (cfc kd 2 bf).toArray)] Tryz.func89 rfl Tryz.ntmps89 rfl ⟨rfl, trivial⟩ ?_
 refine cd_seq ?_
 refine cd_region [2, 0] ?_
 refine op_boxa rfl rfl fun b1 => ?_
 refine op_y (y_assign rfl) rfl ?_
 refine op_nil ?_
 refine ent_then ?_
 refine cd_seq ?_
 refine cd_seq ?_
 refine cd_region [0, 1] ?_
 first | refine op_y (y_fld New3.fo_25_1 rfl) rfl ?_ | refine op_y (y_flda New3.fo_25_1 rfl) rfl ?_
 apply op_ld New3.sc_3 rfl rfl
 ·exact rm
 ·rfl
 refine op_nil ?_
 refine ent_then ?_
 refine cd_block ?_
 refine cd_seq ?_
 refine cd_region [0, 0] ?_
 first | refine op_y (y_eq rfl rfl (eqT (by omega))) rfl ?_ | refine op_y (y_eq rfl rfl (eqF (by omega))) rfl ?_ | refine op_y (y_eq rfl rfl rfl) rfl ?_
 refine op_y (y_assign rfl) rfl ?_
 refine op_nil ?_
 refine ent_then ?_
 refine cd_iff rfl ?_
 refine cd_seq ?_
 refine cd_region [0, 0] ?_
 first | refine op_y (y_eq rfl rfl (eqT (by omega))) rfl ?_ | refine op_y (y_eq rfl rfl (eqF (by omega))) rfl ?_ | refine op_y (y_eq rfl rfl rfl) rfl ?_
 refine op_y (y_assign rfl) rfl ?_
 refine op_nil ?_
 refine ent_then ?_
 refine cd_ift rfl ?_
 refine cd_seq ?_
 refine cd_region [0, 1, 0, 1, 2, 0, 0, 0, 0, 0] ?_
 first | refine op_y (y_fld New3.fo_25_4 rfl) rfl ?_ | refine op_y (y_flda New3.fo_25_4 rfl) rfl ?_
 apply op_ld New3.sc_3 rfl rfl
 ·exact rm
 ·rfl
 first | refine op_y (y_fld New3.fo_25_2 rfl) rfl ?_ | refine op_y (y_flda New3.fo_25_2 rfl) rfl ?_
 apply op_ld New3.sc_3 rfl rfl
 ·exact rm
 ·rfl
 apply op_c New3.ca_148 rfl rfl (fun e he_ => cNew_ct e 9 (by decide) (by decide))
 ·exact sx
 rintro _ _ ⟨p, rfl, rfl⟩ G_ hG_
 simp only [zn] at hG_; subst hG_
 refine op_y (y_move rfl) rfl ?_
 first | refine op_y (y_extl rfl rfl) rfl ?_ | refine op_y (y_ext rfl rfl) rfl ?_
 first | refine op_y (y_extl rfl rfl) rfl ?_ | refine op_y (y_ext rfl rfl) rfl ?_
 refine op_y (y_assign rfl) rfl ?_
 refine op_y (y_assign rfl) rfl ?_
 refine op_nil ?_
 refine ent_then ?_
 refine cd_seq ?_
 refine cd_region [0, 0, 0, 0] ?_
 refine op_y (y_move rfl) rfl ?_
 apply op_build New3.pl_293 New3.ze_293 rfl rfl
 ·(first | ((try simp [fillL, splice, Value.cells, Fl.cs, Nat.zero, fl2c, cfc]) <;> rfl) | rfl)
 refine op_y (y_mki rfl New3.mi_293) rfl ?_
 refine op_y (y_assign rfl) rfl ?_
 refine op_nil ?_
 refine ent_then ?_
 refine cd_ret ?_
 refine ent_block_ret ?_
 refine ent_thn_ret ?_
 refine ent_ret1 rfl rfl ⟨_, ⟨p, rfl, rfl⟩, fun w h => ?_⟩
 rw [back_t]
 apply Sat.only (h := h)
 exact sx
theorem made_ct (c : Cx) (kd bf : Nat) (cal : Bool) : Ct Tryz.prog 89 #[.agg (cfc kd (bkOf cal) bf).toArray] c [] fun v L => ∃ p, v = .iface (backT cal) (.agg #[.pointer (some ⟨p, 0, none⟩)]) ∧ L = [back cal p [] 0] := by
 cases cal
 ·exact madeF_ct c kd bf
 ·exact madeT_ct c kd bf
theorem shNew_ct (c : Cx) (kd bf bk : Nat) (cal : Bool) (hbk : bkOf cal = bk) (hkd : kd = 1 ∨ kd = 2) : Ct Tryz.prog 47 #[.agg (cfc kd bk bf).toArray] c [pt bf 197 fl2c] fun v L => ∃ s, v = .tuple #[.pointer (some ⟨s, 0, none⟩), .int .i64 0] ∧ L = [shI s kd cal 0 ⟨[], 1000, 0, 0, 0⟩, pt bf 197 fl2c] := by
 have hb : bk = 1 ∨ bk = 2 := by cases cal <;> simp [bkOf] at hbk <;> omega
 have hmade := fun c => made_ct c kd bf cal
 rw [hbk] at hmade
 obtain ⟨T, hT⟩ : ∃ T, T = backT cal := ⟨_, rfl⟩
 rw [← hT] at hmade
 refine ct_fn (args := [.agg (cfc kd bk bf).toArray]) [(0, .agg (cfc kd bk bf).toArray)] Tryz.func47 rfl Tryz.ntmps47 rfl ⟨rfl, trivial⟩ ?_
 refine cd_seq ?_
 refine cd_region [2, 0, 0] ?_
 refine op_boxa rfl rfl fun b1 => ?_
 refine op_y (y_assign rfl) rfl ?_
 refine op_y (y_assign rfl) rfl ?_
 refine op_nil ?_
 refine ent_then ?_
 refine cd_seq ?_
 refine cd_seq ?_
 refine cd_region [1, 2, 0] ?_
 apply op_lda New3.ag_25 rfl rfl
 ·exact rm
 ·(first | ((try simp only [zz, splice, Nat.reduceAdd, Nat.zero_mul, Fl.cs, Nat.zero, fl2c, cfc]) <;> rfl) | rfl)
 ·rfl
 apply op_c New3.ca_52 rfl rfl (fun e he_ => cCheck_ct e kd bk bf hkd hb)
 ·exact sx
 rintro _ _ ⟨rfl, rfl⟩ G_ hG_
 simp only [zn] at hG_; subst hG_
 refine op_y (y_assign rfl) rfl ?_
 refine op_nil ?_
 refine ent_then ?_
 refine cd_seq ?_
 refine cd_region [0, 0] ?_
 refine op_y (y_move rfl) rfl ?_
 first | refine op_y (y_ne rfl rfl (neT (by omega))) rfl ?_ | refine op_y (y_ne rfl rfl (neF (by omega))) rfl ?_ | refine op_y (y_ne rfl rfl rfl) rfl ?_
 refine op_nil ?_
 refine ent_then ?_
 refine cd_iff rfl ?_
 refine cd_skip ?_
 refine ent_then ?_
 refine cd_seq ?_
 refine cd_region [1, 2, 0, 2, 0] ?_
 apply op_lda New3.ag_25 rfl rfl
 ·exact rm
 ·(first | ((try simp only [zz, splice, Nat.reduceAdd, Nat.zero_mul, Fl.cs, Nat.zero, fl2c, cfc]) <;> rfl) | rfl)
 ·rfl
 apply op_c New3.ca_89 rfl rfl (fun e he_ => hmade e)
 ·exact sx
 rintro _ _ ⟨p, rfl, rfl⟩ G_ hG_
 simp only [zn] at hG_; subst hG_
 apply op_build New3.pl_212 New3.ze_212 rfl rfl
 ·(first | ((try simp [fillL, splice, Value.cells, Fl.cs, Nat.zero, fl2c, cfc]) <;> rfl) | rfl)
 refine op_boxa rfl rfl fun b14 => ?_
 refine op_y (y_assign rfl) rfl ?_
 refine op_nil ?_
 refine ent_then ?_
 refine cd_seq ?_
 refine cd_region [0, 1, 2, 0, 0, 0, 0, 0, 2] ?_
 refine op_y (y_move rfl) rfl ?_
 apply op_lda New3.ag_25 rfl rfl
 ·exact rm
 ·(first | ((try simp only [zz, splice, Nat.reduceAdd, Nat.zero_mul, Fl.cs, Nat.zero, fl2c, cfc]) <;> rfl) | rfl)
 ·rfl
 apply op_c New3.ca_90 rfl rfl (fun e he_ => aNew_ct e kd bk bf)
 ·exact sx
 rintro _ _ ⟨g, rfl, rfl⟩ G_ hG_
 simp only [zn] at hG_; subst hG_
 refine op_y (y_move rfl) rfl ?_
 first | refine op_y (y_extl rfl rfl) rfl ?_ | refine op_y (y_ext rfl rfl) rfl ?_
 first | refine op_y (y_extl rfl rfl) rfl ?_ | refine op_y (y_ext rfl rfl) rfl ?_
 first | refine op_y (y_nil rfl) rfl ?_ | refine op_y (y_nili rfl) rfl ?_ | refine op_y (y_nilf rfl) rfl ?_
 first | refine op_y (y_fld0 New3.fo_212_0 rfl) rfl ?_ | refine op_y (y_flda New3.fo_212_0 rfl) rfl ?_
 apply op_st1 New3.sz_208 rfl rfl rfl
 ·exact rm
 ·rfl
 ·(first | ((try simp only [zz, splice, Nat.reduceAdd, Nat.zero_mul, Fl.cs, Nat.zero, fl2c, cfc]) <;> rfl) | rfl)
 refine op_nil ?_
 refine ent_then ?_
 refine cd_seq ?_
 refine cd_region [0, 0, 1, 0, 1, 2, 0, 0, 0, 0, 0, 2] ?_
 refine op_y (y_move rfl) rfl ?_
 first | refine op_y (y_fld0 New3.fo_25_0 rfl) rfl ?_ | refine op_y (y_flda New3.fo_25_0 rfl) rfl ?_
 apply op_ld New3.sc_3 rfl rfl
 ·exact rm
 ·rfl
 first | refine op_y (y_fld New3.fo_25_10 rfl) rfl ?_ | refine op_y (y_flda New3.fo_25_10 rfl) rfl ?_
 apply op_ld New3.sc_23 rfl rfl
 ·exact rm
 ·rfl
 apply op_c New3.ca_91 rfl rfl (fun e he_ => rNew_ct e bf kd hkd)
 ·exact sx
 rintro _ _ ⟨r, rfl, rfl⟩ G_ hG_
 simp only [zn] at hG_; subst hG_
 refine op_y (y_move rfl) rfl ?_
 first | refine op_y (y_extl rfl rfl) rfl ?_ | refine op_y (y_ext rfl rfl) rfl ?_
 first | refine op_y (y_extl rfl rfl) rfl ?_ | refine op_y (y_ext rfl rfl) rfl ?_
 first | refine op_y (y_nil rfl) rfl ?_ | refine op_y (y_nili rfl) rfl ?_ | refine op_y (y_nilf rfl) rfl ?_
 first | refine op_y (y_fld New3.fo_212_1 rfl) rfl ?_ | refine op_y (y_flda New3.fo_212_1 rfl) rfl ?_
 apply op_st1 New3.sz_209 rfl rfl rfl
 ·exact rm
 ·rfl
 ·(first | ((try simp only [zz, splice, Nat.reduceAdd, Nat.zero_mul, Fl.cs, Nat.zero, fl2c, cfc]) <;> rfl) | rfl)
 refine op_nil ?_
 refine ent_then ?_
 refine cd_seq ?_
 refine cd_region [0, 0, 1, 0, 1, 2, 0, 0, 0, 0, 0, 2] ?_
 refine op_y (y_move rfl) rfl ?_
 first | refine op_y (y_fld New3.fo_25_8 rfl) rfl ?_ | refine op_y (y_flda New3.fo_25_8 rfl) rfl ?_
 apply op_ld New3.sc_22 rfl rfl
 ·exact rm
 ·rfl
 first | refine op_y (y_fld New3.fo_25_9 rfl) rfl ?_ | refine op_y (y_flda New3.fo_25_9 rfl) rfl ?_
 apply op_ld New3.sc_22 rfl rfl
 ·exact rm
 ·rfl
 apply op_c New3.ca_92 rfl rfl (fun e he_ => bNew_ct e)
 ·exact sx
 rintro _ _ ⟨rfl, rfl⟩ G_ hG_
 simp only [zn] at hG_; subst hG_
 refine op_y (y_move rfl) rfl ?_
 first | refine op_y (y_extl rfl rfl) rfl ?_ | refine op_y (y_ext rfl rfl) rfl ?_
 first | refine op_y (y_extl rfl rfl) rfl ?_ | refine op_y (y_ext rfl rfl) rfl ?_
 first | refine op_y (y_nil rfl) rfl ?_ | refine op_y (y_nili rfl) rfl ?_ | refine op_y (y_nilf rfl) rfl ?_
 first | refine op_y (y_fld New3.fo_212_2 rfl) rfl ?_ | refine op_y (y_flda New3.fo_212_2 rfl) rfl ?_
 apply op_sta New3.sz_210 rfl rfl rfl rfl
 ·exact rm
 ·simp
 ·(first | ((try simp only [zz, splice, Nat.reduceAdd, Nat.zero_mul, Fl.cs, Nat.zero, fl2c, cfc]) <;> rfl) | rfl)
 refine op_nil ?_
 refine ent_then ?_
 refine cd_seq ?_
 refine cd_region [0, 0, 0] ?_
 refine op_y (y_move rfl) rfl ?_
 refine op_y (y_assign rfl) rfl ?_
 refine op_y (y_assign rfl) rfl ?_
 refine op_nil ?_
 refine ent_then ?_
 refine cd_ret ?_
 subst hT
 refine ent_ret2 rfl rfl rfl ⟨_, ⟨b14, rfl, rfl⟩, fun w h => shI_shut ⟨g, r, p, List.replicate 32 0⟩ ⟨by simp, by simp⟩ ?_⟩
 show Sat [pt b14 212 (scs g r 1000 p (backT cal) 0 (List.replicate 32 0)), gateI g kd (bkOf cal) 0 0, rankI r kd 0 0, back cal p [] 0, pt bf 197 fl2c] c w
 rw [hbk]
 replace h : Sat [pt b14 212 (scs g r 1000 p (backT cal) 0 (List.replicate 32 0)), rankI r kd 0 0, pt bf 197 fl2c, gateI g kd bk 0 0, back cal p [] 0, pt b1 25 (cfc kd bk bf)] c w := h
 apply Sat.only (h := h)
 exact sx
end Go.Proofs.YtfkadaodnaaceaaGreatDoor
/- Datagrams' headers, as lists of bytes: what each function of header and sum computes. No program in sight. -/
namespace Go.Proofs.YtfkadaodnaaceaaGreatDoor
open Go Go.SL
/-- Numbers of two, and four, bytes at a place. -/
def hf (l : List UInt8) (j : Nat) : Nat := bt l j * 256 + bt l (j + 1)
def wd (l : List UInt8) (j : Nat) : Nat := hf l j * 65536 + hf l (j + 2)
theorem hf_lt (l : List UInt8) (j : Nat) : hf l j < 65536 := by
 have := bt_lt l j; have := bt_lt l (j + 1); unfold hf; omega
theorem wd_lt (l : List UInt8) (j : Nat) : wd l j < 4294967296 := by
 have := hf_lt l j; have := hf_lt l (j + 2); unfold wd; omega
def ringN (n : Nat) : Nat := n / 65536 + n % 65536
theorem ringN_le {n : Nat} (h : n ≤ 131070) : ringN n ≤ 65535 := by unfold ringN; omega
def inetN : Nat → List UInt8 → Nat
 | n, [] => n
 | n, [a] => ringN (n + a.toNat * 256)
 | n, a :: b :: r => inetN (ringN (n + (a.toNat * 256 + b.toNat))) r
theorem inetN_le : ∀ (l : List UInt8) (n : Nat), n ≤ 65535 → inetN n l ≤ 65535
 | [], n, h => h
 | [a], n, h => ringN_le (by have := UInt8.toNat_lt a; omega)
 | a :: b :: r, n, h => inetN_le r _ (ringN_le (by have := UInt8.toNat_lt a; have := UInt8.toNat_lt b; omega))
theorem bt_drop (l : List UInt8) (i j : Nat) : bt (l.drop i) j = bt l (i + j) := by
 simp [bt, List.getD_eq_getElem?_getD, List.getElem?_drop]
theorem drop_cons {l : List UInt8} {i : Nat} (h : i < l.length) : l.drop i = l[i] :: l.drop (i + 1) := List.drop_eq_getElem_cons h
theorem bt_of {l : List UInt8} {i : Nat} (h : i < l.length) : bt l i = (l[i]).toNat := by simp [bt, List.getD_eq_getElem?_getD, List.getElem?_eq_getElem h]
theorem inetN_two {l : List UInt8} {n i : Nat} (h : i + 1 < l.length) : inetN n (l.drop i) = inetN (ringN (n + (bt l i * 256 + bt l (i + 1)))) (l.drop (i + 2)) := by
 rw [drop_cons (by omega : i < l.length), drop_cons h, inetN, bt_of h, bt_of (by omega : i < l.length)]
theorem inetN_one {l : List UInt8} {n i : Nat} (h : i + 1 = l.length) : inetN n (l.drop i) = inetN (ringN (n + bt l i * 256)) (l.drop (i + 2)) := by
 rw [drop_cons (by omega : i < l.length), List.drop_eq_nil_of_le (by omega : l.length ≤ i + 1), List.drop_eq_nil_of_le (by omega : l.length ≤ i + 2), inetN, inetN, bt_of (by omega : i < l.length)]
/-- The sum of datagrams' headers. -/
def inetF (l : List UInt8) : Nat := 65535 - inetN 0 l
/-- A sum behind a word's change. -/
def updF (s a b : Nat) : Nat := 65535 - ringN (ringN ((65535 - s) + (65535 - a)) + b)
theorem updF_lt (s a b : Nat) : updF s a b < 65536 := by unfold updF; omega
theorem inetF_lt (l : List UInt8) : inetF l < 65536 := by unfold inetF; omega
/-- A number's two bytes. -/
def hv (n : Nat) : List UInt8 := [UInt8.ofNat (n / 256), UInt8.ofNat n]
theorem hv2 (n : Nat) : (hv n).length = 2 := rfl
def hvs (l : List Nat) : List UInt8 := l.flatMap hv
theorem hvs_append (a b : List Nat) : hvs (a ++ b) = hvs a ++ hvs b := by simp [hvs]
theorem hvs_length (l : List Nat) : (hvs l).length = 2 * l.length := by
 induction l with
 | nil => rfl
 | cons n l ih => rw [show hvs (n :: l) = hv n ++ hvs l by simp [hvs], List.length_append, ih, hv2, List.length_cons]; omega
def formB (l : List UInt8) : Bool := bt l 0 == 69 && (bt l 1 % 4 == 0 && (hf l 2 == l.length && (hf l 6 == 0 && (bt l 9 == 17 && (hf l 24 + 20 == l.length && hf l 26 == 0)))))
def sumB (l : List UInt8) : Bool := hf l 10 == inetF (l.take 10 ++ [0, 0] ++ (l.drop 12).take 8)
/-- Why bytes are no datagram. -/
def takeE (l : List UInt8) : Nat := if l.length < 28 then 2 else if formB l = false then 3 else if sumB l = false then 11 else 0
structure Hdr where
 dscp : Nat
 id : Nat
 ttl : Nat
 src : Nat
 dst : Nat
 sport : Nat
 dport : Nat
 deriving DecidableEq, Inhabited
abbrev Hdr.cs (h : Hdr) : List Value := [.int .u8 h.dscp, .int .u16 h.id, .int .u8 h.ttl, .int .u32 h.src, .int .u32 h.dst, .int .u16 h.sport, .int .u16 h.dport]
structure Hdr.ok (h : Hdr) : Prop where
 dscp : h.dscp < 256
 id : h.id < 65536
 ttl : h.ttl < 256
 src : h.src < 4294967296
 dst : h.dst < 4294967296
 sport : h.sport < 65536
 dport : h.dport < 65536
def hdrOf (l : List UInt8) : Hdr := ⟨bt l 1 / 4, hf l 4, bt l 8, wd l 12, wd l 16, hf l 20, hf l 22⟩
def takeH (l : List UInt8) : Hdr := if takeE l = 0 then hdrOf l else ⟨0, 0, 0, 0, 0, 0, 0⟩
def takeS (l : List UInt8) : List UInt8 := if takeE l = 0 then l.drop 28 else []
theorem takeE_len {l : List UInt8} (h : takeE l = 0) : 28 ≤ l.length := by
 unfold takeE at h
 split at h
 ·cases h
 ·omega
theorem takeE_size {l : List UInt8} (h : takeE l = 0) : hf l 2 = l.length := by
 unfold takeE at h
 split at h
 ·cases h
 ·split at h
  ·cases h
  ·rename_i hfm
   have : formB l = true := by simpa using hfm
   unfold formB at this
   simp only [Bool.and_eq_true, beq_iff_eq] at this
   exact this.2.2.1
theorem takeE_lt {l : List UInt8} (h : takeE l = 0) : l.length < 65536 := by rw [← takeE_size h]; exact hf_lt l 2
/-- Two bytes at a place are others, and the sum with them. -/
def withF (l : List UInt8) (at_ n : Nat) : List UInt8 :=
 (l.take at_ ++ hvs [n] ++ l.drop (at_ + 2)).take 10 ++ hvs [updF (hf l 10) (hf l at_) n] ++ (l.take at_ ++ hvs [n] ++ l.drop (at_ + 2)).drop 12
theorem hvs1 (n : Nat) : (hvs [n]).length = 2 := rfl
theorem withF_length {l : List UInt8} {a n : Nat} (h : a + 2 ≤ l.length) (h12 : 12 ≤ l.length) : (withF l a n).length = l.length := by
 have h1 : (l.take a ++ hvs [n] ++ l.drop (a + 2)).length = l.length := by
  simp only [List.length_append, List.length_take, List.length_drop, hvs1]; omega
 unfold withF
 rw [List.length_append, List.length_append, List.length_take, List.length_drop, h1, hvs1]; omega
/-- What a hop makes of bytes, and why it makes nothing. -/
def hopE (l : List UInt8) : Nat := if takeE l ≠ 0 then takeE l else if bt l 8 < 2 then 21 else 0
def hopF (l : List UInt8) : List UInt8 := if hopE l = 0 then withF l 8 (hf l 8 - 256) else []
/-- The datagram of a header and a body. -/
def putE (h : Hdr) (b : List UInt8) : Nat := if 63 < h.dscp then 6 else if 65507 < b.length then 4 else 0
def putF (h : Hdr) (b : List UInt8) : List UInt8 := if putE h b ≠ 0 then [] else
 let front := hvs [17664 + h.dscp * 4, b.length + 28, h.id, 0, h.ttl * 256 + 17]
 let back := hvs [h.src / 65536, h.src % 65536, h.dst / 65536, h.dst % 65536]
 front ++ hvs [inetF (front ++ [0, 0] ++ back)] ++ back ++ hvs [h.sport, h.dport, b.length + 8, 0] ++ b
/-- The example: a datagram comes, and one hop later its TTL is 8. -/
def exD : List UInt8 := putF ⟨0, 0, 9, 0, 0, 0, 0⟩ [98, 111, 100, 121]
theorem ex_take : takeE exD = 0 := by decide +kernel
theorem ex_hop : hopE exD = 0 := by decide +kernel
theorem ex_len : exD.length = 32 := by decide +kernel
theorem ex_left : takeE (hopF exD) = 0 ∧ (takeH (hopF exD)).ttl = 8 ∧ takeS (hopF exD) = [98, 111, 100, 121] := by decide +kernel
end Go.Proofs.YtfkadaodnaaceaaGreatDoor
/- Datagrams' headers: sums, numbers of two bytes, rows of them. -/
namespace Go.Proofs.YtfkadaodnaaceaaGreatDoor
open Go Go.SL
theorem Hdr.ca_83 : callable Tryz.prog 83 = true := by kernel_rfl
theorem Hdr.ca_145 : callable Tryz.prog 145 = true := by kernel_rfl
theorem Hdr.un_5 : Tryz.prog.underlying 5 = some (.int .u8) := by kernel_rfl
theorem Hdr.un_9 : Tryz.prog.underlying 9 = some (.string) := by kernel_rfl
theorem Hdr.un_41 : Tryz.prog.underlying 41 = some (.int .u16) := by kernel_rfl
theorem Hdr.un_42 : Tryz.prog.underlying 42 = some (.int .u32) := by kernel_rfl
set_option maxRecDepth 100000
set_option maxHeartbeats 1000000
theorem ring_ct (c : Cx) (a b : Nat) (h : a + b ≤ 131070) : Ct Tryz.prog 145 #[.int .u32 a, .int .u32 b] c [] fun v L => v = .int .u32 (ringN (a + b) : Nat) ∧ L = [] := by
 refine ct_fn (args := [.int .u32 a, .int .u32 b]) [(0, .int .u32 a), (1, .int .u32 b)] Tryz.func145 rfl Tryz.ntmps145 rfl ⟨rfl, rfl, trivial⟩ ?_
 have hr := ringN_le h
 refine cd_seq ?_
 refine cd_region [0] ?_
 refine op_y (y_assign rfl) rfl ?_
 refine op_nil ?_
 refine ent_then ?_
 refine cd_seq ?_
 refine cd_region [0, 0, 0, 0] ?_
 refine op_y (y_move rfl) rfl ?_
 refine op_y (y_move rfl) rfl ?_
 refine op_y (y_addr (a + b) rfl rfl rfl rfl rfl rfl (by show _ < 4294967296; omega)) rfl ?_
 refine op_y (y_assign rfl) rfl ?_
 refine op_nil ?_
 refine ent_then ?_
 refine cd_seq ?_
 refine cd_region [0, 0, 0, 0, 0, 0] ?_
 refine op_y (y_move rfl) rfl ?_
 refine op_y (y_shrr (a := a + b) (b := 16) ((a + b) / 65536) rfl rfl rfl rfl (by decide) rfl) rfl ?_
 refine op_y (y_move rfl) rfl ?_
 refine op_y (y_maskr (a := a + b) (m := 16) ((a + b) % 65536) rfl rfl rfl rfl rfl (by show _ < 4294967296; omega) (by decide) rfl) rfl ?_
 refine op_y (y_addr (ringN (a + b)) rfl rfl rfl rfl rfl rfl (by show _ < 4294967296; omega)) rfl ?_
 refine op_y (y_assign rfl) rfl ?_
 refine op_nil ?_
 refine ent_then ?_
 refine cd_ret ?_
 refine ent_ret1 rfl rfl ⟨_, ⟨rfl, rfl⟩, fun w h => h⟩
theorem inet_ct (c : Cx) (l : List UInt8) (hl : l.length ≤ 70000) : Ct Tryz.prog 85 #[sv l] c [] fun v L => v = .int .u16 (inetF l : Nat) ∧ L = [] := by
 refine ct_fn (args := [sv l]) [(0, sv l)] Tryz.func85 rfl Tryz.ntmps85 rfl ⟨rfl, trivial⟩ ?_
 refine cd_seq ?_
 refine cd_region [0] ?_
 refine op_y (y_assign rfl) rfl ?_
 refine op_nil ?_
 refine ent_then ?_
 refine cd_seq ?_
 refine cd_region [0] ?_
 refine op_y (y_assign rfl) rfl ?_
 refine op_nil ?_
 refine ent_then ?_
 refine cd_seq ?_
 refine cd_seq ?_
 refine cd_region [0] ?_
 refine op_y (y_assign rfl) rfl ?_
 refine op_nil ?_
 refine ent_then ?_
 refine cd_block ?_
 refine cd_loop (α := Nat × Nat) (fun x => x.1 ≤ 65535 ∧ x.2 ≤ l.length + 1 ∧ inetN x.1 (l.drop x.2) = inetN 0 l) (fun x => l.length + 2 - x.2) (fun x => [(0, sv l), (3, .int .u32 x.1), (4, .int .i64 x.2)]) (fun _ => []) (0, 0) ⟨by decide, by omega, rfl⟩ ⟨rfl, rfl, rfl, trivial⟩ (fun w h => h) ?_
 rintro ⟨n, i⟩ ⟨hn, hi, he⟩
 simp only [] at hn hi he ⊢
 have hb0 := bt_lt l i
 have hb1 := bt_lt l (i + 1)
 by_cases hlt : i < l.length
 ·skip
  by_cases h2 : i + 1 < l.length
  ·skip
   refine cd_seq ?_
   refine cd_seq ?_
   refine cd_region [0, 0, 0, 0] ?_
   refine op_y (y_move rfl) rfl ?_
   refine op_y (y_move rfl) rfl ?_
   first | refine op_y (y_slen Hdr.un_9 rfl) rfl ?_ | refine op_y (y_lens Hdr.un_9 rfl) rfl ?_
   first | refine op_y (y_lt rfl rfl (decide_eq_true (by omega))) rfl ?_ | refine op_y (y_lt rfl rfl (decide_eq_false (by omega))) rfl ?_ | refine op_y (y_lt rfl rfl rfl) rfl ?_
   refine op_nil ?_
   refine ent_then ?_
   refine cd_ift rfl ?_
   refine cd_skip ?_
   refine ent_then ?_
   refine cd_seq ?_
   refine cd_block ?_
   refine cd_seq ?_
   refine cd_region [0, 0, 0, 0, 0, 0] ?_
   refine op_y (y_move rfl) rfl ?_
   refine op_y (y_move rfl) rfl ?_
   first | refine op_y (y_sidx Hdr.un_9 rfl rfl rfl (by first | omega | (simp only [List.length_append, List.length_cons, List.length_nil, List.length_take, List.length_drop]; omega) | (simp; omega) | (simp; done))) rfl ?_ | refine op_y (y_sidx Hdr.un_9 rfl rfl (Int.toNat_of_nonneg (by omega)).symm (by first | omega | (simp only [List.length_append, List.length_cons, List.length_nil, List.length_take, List.length_drop]; omega) | (simp; omega) | (simp; done))) rfl ?_
   first | refine op_y (y_conv Hdr.un_5 Hdr.un_42 rfl (wu32 (by omega) (by omega))) rfl ?_ | refine op_y (y_conv Hdr.un_5 Hdr.un_42 rfl rfl) rfl ?_
   refine op_y (y_shlr (a := bt l i) (b := 8) (bt l i * 256) rfl rfl rfl rfl rfl (by decide) rfl (by show _ < 4294967296; omega)) rfl ?_
   refine op_y (y_assign rfl) rfl ?_
   refine op_nil ?_
   refine ent_then ?_
   refine cd_seq ?_
   refine cd_seq ?_
   refine cd_region [0, 0, 0, 0, 0] ?_
   refine op_y (y_move rfl) rfl ?_
   first | refine op_y (y_add rfl rfl (wi64 (by omega) (by omega))) rfl ?_ | refine op_y (y_add rfl rfl rfl) rfl ?_
   refine op_y (y_move rfl) rfl ?_
   first | refine op_y (y_slen Hdr.un_9 rfl) rfl ?_ | refine op_y (y_lens Hdr.un_9 rfl) rfl ?_
   first | refine op_y (y_lt rfl rfl (decide_eq_true (by omega))) rfl ?_ | refine op_y (y_lt rfl rfl (decide_eq_false (by omega))) rfl ?_ | refine op_y (y_lt rfl rfl rfl) rfl ?_
   refine op_nil ?_
   refine ent_then ?_
   refine cd_ift rfl ?_
   refine cd_region [0, 0, 0, 0, 0, 0, 0, 0] ?_
   refine op_y (y_move rfl) rfl ?_
   refine op_y (y_move rfl) rfl ?_
   refine op_y (y_move rfl) rfl ?_
   first | refine op_y (y_add rfl rfl (wi64 (by omega) (by omega))) rfl ?_ | refine op_y (y_add rfl rfl rfl) rfl ?_
   refine op_y (y_sidx (j := i + 1) Hdr.un_9 rfl rfl (by omega) h2) rfl ?_
   first | refine op_y (y_conv Hdr.un_5 Hdr.un_42 rfl (wu32 (by omega) (by omega))) rfl ?_ | refine op_y (y_conv Hdr.un_5 Hdr.un_42 rfl rfl) rfl ?_
   refine op_y (y_addr (bt l i * 256 + bt l (i + 1)) rfl rfl rfl rfl rfl rfl (by show _ < 4294967296; omega)) rfl ?_
   refine op_y (y_assign rfl) rfl ?_
   refine op_nil ?_
   refine ent_then ?_
   refine cd_region [0, 0, 2, 0] ?_
   refine op_y (y_move rfl) rfl ?_
   refine op_y (y_move rfl) rfl ?_
   apply op_c Hdr.ca_145 rfl rfl (fun e he_ => ring_ct e n (bt l i * 256 + bt l (i + 1)) (by omega))
   ·exact sx
   rintro _ _ ⟨rfl, rfl⟩ G_ hG_
   simp only [zn] at hG_; subst hG_
   refine op_y (y_assign rfl) rfl ?_
   refine op_nil ?_
   refine ent_block ?_
   refine ent_then ?_
   refine cd_region [0, 0, 0] ?_
   refine op_y (y_move rfl) rfl ?_
   first | refine op_y (y_add rfl rfl (wi64 (by omega) (by omega))) rfl ?_ | refine op_y (y_add rfl rfl rfl) rfl ?_
   refine op_y (y_assign rfl) rfl ?_
   refine op_nil ?_
   refine ent_back (ringN (n + (bt l i * 256 + bt l (i + 1))), i + 2) ⟨ringN_le (by omega), by show i + 2 ≤ _; omega, ?_⟩ (by show _ - (i + 2) < _; omega) ⟨rfl, rfl, rfl, trivial⟩ fun w h => h
   show inetN _ (l.drop (i + 2)) = _
   rw [← he, inetN_two h2]
  ·skip
   refine cd_seq ?_
   refine cd_seq ?_
   refine cd_region [0, 0, 0, 0] ?_
   refine op_y (y_move rfl) rfl ?_
   refine op_y (y_move rfl) rfl ?_
   first | refine op_y (y_slen Hdr.un_9 rfl) rfl ?_ | refine op_y (y_lens Hdr.un_9 rfl) rfl ?_
   first | refine op_y (y_lt rfl rfl (decide_eq_true (by omega))) rfl ?_ | refine op_y (y_lt rfl rfl (decide_eq_false (by omega))) rfl ?_ | refine op_y (y_lt rfl rfl rfl) rfl ?_
   refine op_nil ?_
   refine ent_then ?_
   refine cd_ift rfl ?_
   refine cd_skip ?_
   refine ent_then ?_
   refine cd_seq ?_
   refine cd_block ?_
   refine cd_seq ?_
   refine cd_region [0, 0, 0, 0, 0, 0] ?_
   refine op_y (y_move rfl) rfl ?_
   refine op_y (y_move rfl) rfl ?_
   first | refine op_y (y_sidx Hdr.un_9 rfl rfl rfl (by first | omega | (simp only [List.length_append, List.length_cons, List.length_nil, List.length_take, List.length_drop]; omega) | (simp; omega) | (simp; done))) rfl ?_ | refine op_y (y_sidx Hdr.un_9 rfl rfl (Int.toNat_of_nonneg (by omega)).symm (by first | omega | (simp only [List.length_append, List.length_cons, List.length_nil, List.length_take, List.length_drop]; omega) | (simp; omega) | (simp; done))) rfl ?_
   first | refine op_y (y_conv Hdr.un_5 Hdr.un_42 rfl (wu32 (by omega) (by omega))) rfl ?_ | refine op_y (y_conv Hdr.un_5 Hdr.un_42 rfl rfl) rfl ?_
   refine op_y (y_shlr (a := bt l i) (b := 8) (bt l i * 256) rfl rfl rfl rfl rfl (by decide) rfl (by show _ < 4294967296; omega)) rfl ?_
   refine op_y (y_assign rfl) rfl ?_
   refine op_nil ?_
   refine ent_then ?_
   refine cd_seq ?_
   refine cd_seq ?_
   refine cd_region [0, 0, 0, 0, 0] ?_
   refine op_y (y_move rfl) rfl ?_
   first | refine op_y (y_add rfl rfl (wi64 (by omega) (by omega))) rfl ?_ | refine op_y (y_add rfl rfl rfl) rfl ?_
   refine op_y (y_move rfl) rfl ?_
   first | refine op_y (y_slen Hdr.un_9 rfl) rfl ?_ | refine op_y (y_lens Hdr.un_9 rfl) rfl ?_
   first | refine op_y (y_lt rfl rfl (decide_eq_true (by omega))) rfl ?_ | refine op_y (y_lt rfl rfl (decide_eq_false (by omega))) rfl ?_ | refine op_y (y_lt rfl rfl rfl) rfl ?_
   refine op_nil ?_
   refine ent_then ?_
   refine cd_iff rfl ?_
   refine cd_skip ?_
   refine ent_then ?_
   refine cd_region [0, 0, 2, 0] ?_
   refine op_y (y_move rfl) rfl ?_
   refine op_y (y_move rfl) rfl ?_
   apply op_c Hdr.ca_145 rfl rfl (fun e he_ => ring_ct e n (bt l i * 256) (by omega))
   ·exact sx
   rintro _ _ ⟨rfl, rfl⟩ G_ hG_
   simp only [zn] at hG_; subst hG_
   refine op_y (y_assign rfl) rfl ?_
   refine op_nil ?_
   refine ent_block ?_
   refine ent_then ?_
   refine cd_region [0, 0, 0] ?_
   refine op_y (y_move rfl) rfl ?_
   first | refine op_y (y_add rfl rfl (wi64 (by omega) (by omega))) rfl ?_ | refine op_y (y_add rfl rfl rfl) rfl ?_
   refine op_y (y_assign rfl) rfl ?_
   refine op_nil ?_
   refine ent_back (ringN (n + bt l i * 256), i + 2) ⟨ringN_le (by omega), by show i + 2 ≤ _; omega, ?_⟩ (by show _ - (i + 2) < _; omega) ⟨rfl, rfl, rfl, trivial⟩ fun w h => h
   show inetN _ (l.drop (i + 2)) = _
   rw [← he, inetN_one (n := n) (i := i) (by omega)]
 ·skip
  have h0 : inetN 0 l = n := by rw [← he, List.drop_eq_nil_of_le (by omega)]; rfl
  refine cd_seq ?_
  refine cd_seq ?_
  refine cd_region [0, 0, 0, 0] ?_
  refine op_y (y_move rfl) rfl ?_
  refine op_y (y_move rfl) rfl ?_
  first | refine op_y (y_slen Hdr.un_9 rfl) rfl ?_ | refine op_y (y_lens Hdr.un_9 rfl) rfl ?_
  first | refine op_y (y_lt rfl rfl (decide_eq_true (by omega))) rfl ?_ | refine op_y (y_lt rfl rfl (decide_eq_false (by omega))) rfl ?_ | refine op_y (y_lt rfl rfl rfl) rfl ?_
  refine op_nil ?_
  refine ent_then ?_
  refine cd_iff rfl ?_
  refine cd_exit ?_
  refine ent_thn_exit ?_
  refine ent_then_exit ?_
  refine ent_block_exit ?_
  refine ent_then ?_
  refine cd_seq ?_
  refine cd_region [0, 0, 0, 0] ?_
  refine op_y (y_move rfl) rfl ?_
  refine op_y (y_convr (a := n) n rfl Hdr.un_42 Hdr.un_41 rfl rfl (Nat.mod_eq_of_lt (by show n < 65536; omega))) rfl ?_
  refine op_y (y_xor16 rfl rfl (by first | omega | (simp only [List.length_append, List.length_cons, List.length_nil, List.length_take, List.length_drop]; omega) | (simp; omega) | (simp; done))) rfl ?_
  refine op_y (y_assign rfl) rfl ?_
  refine op_nil ?_
  refine ent_then ?_
  refine cd_ret ?_
  refine ent_ret1 rfl rfl ⟨_, ⟨by rw [inetF, h0], rfl⟩, fun w h => h⟩
theorem upd_ct (c : Cx) (s a b : Nat) (hs : s < 65536) (ha : a < 65536) (hb : b < 65536) : Ct Tryz.prog 144 #[.int .u16 s, .int .u16 a, .int .u16 b] c [] fun v L => v = .int .u16 (updF s a b : Nat) ∧ L = [] := by
 refine ct_fn (args := [.int .u16 s, .int .u16 a, .int .u16 b]) [(0, .int .u16 s), (1, .int .u16 a), (2, .int .u16 b)] Tryz.func144 rfl Tryz.ntmps144 rfl ⟨rfl, rfl, rfl, trivial⟩ ?_
 have h1 : ringN ((65535 - s) + (65535 - a)) ≤ 65535 := ringN_le (by omega)
 have h2 : ringN (ringN ((65535 - s) + (65535 - a)) + b) ≤ 65535 := ringN_le (by omega)
 refine cd_seq ?_
 refine cd_region [0] ?_
 refine op_y (y_assign rfl) rfl ?_
 refine op_nil ?_
 refine ent_then ?_
 refine cd_seq ?_
 refine cd_region [0, 0, 0, 0, 0, 0, 2, 0, 0, 2, 0, 0, 0] ?_
 refine op_y (y_move rfl) rfl ?_
 refine op_y (y_xor16 rfl rfl (by first | omega | (simp only [List.length_append, List.length_cons, List.length_nil, List.length_take, List.length_drop]; omega) | (simp; omega) | (simp; done))) rfl ?_
 first | refine op_y (y_conv Hdr.un_41 Hdr.un_42 rfl (wu32 (by omega) (by omega))) rfl ?_ | refine op_y (y_conv Hdr.un_41 Hdr.un_42 rfl rfl) rfl ?_
 refine op_y (y_move rfl) rfl ?_
 refine op_y (y_xor16 rfl rfl (by first | omega | (simp only [List.length_append, List.length_cons, List.length_nil, List.length_take, List.length_drop]; omega) | (simp; omega) | (simp; done))) rfl ?_
 first | refine op_y (y_conv Hdr.un_41 Hdr.un_42 rfl (wu32 (by omega) (by omega))) rfl ?_ | refine op_y (y_conv Hdr.un_41 Hdr.un_42 rfl rfl) rfl ?_
 apply op_c Hdr.ca_145 rfl rfl (fun e he_ => ring_ct e (65535 - s) (65535 - a) (by omega))
 ·exact sx
 rintro _ _ ⟨rfl, rfl⟩ G_ hG_
 simp only [zn] at hG_; subst hG_
 refine op_y (y_move rfl) rfl ?_
 first | refine op_y (y_conv Hdr.un_41 Hdr.un_42 rfl (wu32 (by omega) (by omega))) rfl ?_ | refine op_y (y_conv Hdr.un_41 Hdr.un_42 rfl rfl) rfl ?_
 apply op_c Hdr.ca_145 rfl rfl (fun e he_ => ring_ct e (ringN ((65535 - s) + (65535 - a))) b (by omega))
 ·exact sx
 rintro _ _ ⟨rfl, rfl⟩ G_ hG_
 simp only [zn] at hG_; subst hG_
 refine op_y (y_convr (a := ringN (ringN ((65535 - s) + (65535 - a)) + b)) (ringN (ringN ((65535 - s) + (65535 - a)) + b)) rfl Hdr.un_42 Hdr.un_41 rfl rfl (Nat.mod_eq_of_lt (by show _ < 65536; omega))) rfl ?_
 refine op_y (y_xor16 rfl rfl (by first | omega | (simp only [List.length_append, List.length_cons, List.length_nil, List.length_take, List.length_drop]; omega) | (simp; omega) | (simp; done))) rfl ?_
 refine op_y (y_assign rfl) rfl ?_
 refine op_nil ?_
 refine ent_then ?_
 refine cd_ret ?_
 refine ent_ret1 rfl rfl ⟨_, ⟨rfl, rfl⟩, fun w h => h⟩
theorem half_ct (c : Cx) (l : List UInt8) (j : Nat) (hj : j + 1 < l.length) (hl : l.length ≤ 70000) : Ct Tryz.prog 83 #[sv l, .int .i64 j] c [] fun v L => v = .int .u16 (hf l j : Nat) ∧ L = [] := by
 refine ct_fn (args := [sv l, .int .i64 j]) [(0, sv l), (1, .int .i64 j)] Tryz.func83 rfl Tryz.ntmps83 rfl ⟨rfl, rfl, trivial⟩ ?_
 have hb0 := bt_lt l j
 have hb1 := bt_lt l (j + 1)
 refine cd_seq ?_
 refine cd_region [0] ?_
 refine op_y (y_assign rfl) rfl ?_
 refine op_nil ?_
 refine ent_then ?_
 refine cd_seq ?_
 refine cd_draw ([]) [0, 1, 2, 3, 4, 5, 6, 7, 8, 9, 10, 11] [0, 0, 0, 0, 0, 0, 0, 0, 0, 0, 0, 0] mixed_ (by kernel_rfl) ?_
 refine op_y (y_move rfl) rfl ?_
 refine op_y (y_move rfl) rfl ?_
 first | refine op_y (y_sidx Hdr.un_9 rfl rfl rfl (by first | omega | (simp only [List.length_append, List.length_cons, List.length_nil, List.length_take, List.length_drop]; omega) | (simp; omega) | (simp; done))) rfl ?_ | refine op_y (y_sidx Hdr.un_9 rfl rfl (Int.toNat_of_nonneg (by omega)).symm (by first | omega | (simp only [List.length_append, List.length_cons, List.length_nil, List.length_take, List.length_drop]; omega) | (simp; omega) | (simp; done))) rfl ?_
 first | refine op_y (y_conv Hdr.un_5 Hdr.un_41 rfl (wu16 (by omega) (by omega))) rfl ?_ | refine op_y (y_conv Hdr.un_5 Hdr.un_41 rfl rfl) rfl ?_
 refine op_y (y_shlr (a := bt l j) (b := 8) (bt l j * 256) rfl rfl rfl rfl rfl (by decide) rfl (by show _ < 65536; omega)) rfl ?_
 refine op_y (y_move rfl) rfl ?_
 refine op_y (y_move rfl) rfl ?_
 first | refine op_y (y_add rfl rfl (wi64 (by omega) (by omega))) rfl ?_ | refine op_y (y_add rfl rfl rfl) rfl ?_
 refine op_y (y_sidx (j := j + 1) Hdr.un_9 rfl rfl (by omega) hj) rfl ?_
 first | refine op_y (y_conv Hdr.un_5 Hdr.un_41 rfl (wu16 (by omega) (by omega))) rfl ?_ | refine op_y (y_conv Hdr.un_5 Hdr.un_41 rfl rfl) rfl ?_
 refine op_y (y_addr (hf l j) rfl rfl rfl rfl rfl rfl (hf_lt l j)) rfl ?_
 refine op_y (y_assign rfl) rfl ?_
 refine op_nil ?_
 refine ent_then ?_
 refine cd_ret ?_
 refine ent_ret1 rfl rfl ⟨_, ⟨rfl, rfl⟩, fun w h => h⟩
theorem word_ct (c : Cx) (l : List UInt8) (j : Nat) (hj : j + 3 < l.length) (hl : l.length ≤ 70000) : Ct Tryz.prog 87 #[sv l, .int .i64 j] c [] fun v L => v = .int .u32 (wd l j : Nat) ∧ L = [] := by
 refine ct_fn (args := [sv l, .int .i64 j]) [(0, sv l), (1, .int .i64 j)] Tryz.func87 rfl Tryz.ntmps87 rfl ⟨rfl, rfl, trivial⟩ ?_
 have hb0 := hf_lt l j
 have hb1 := hf_lt l (j + 2)
 refine cd_seq ?_
 refine cd_region [0] ?_
 refine op_y (y_assign rfl) rfl ?_
 refine op_nil ?_
 refine ent_then ?_
 refine cd_seq ?_
 refine cd_region [0, 0, 2, 0, 0, 0, 0, 0, 2, 0, 0, 0] ?_
 refine op_y (y_move rfl) rfl ?_
 refine op_y (y_move rfl) rfl ?_
 apply op_c Hdr.ca_83 rfl rfl (fun e he_ => half_ct e l j (by omega) hl)
 ·exact sx
 rintro _ _ ⟨rfl, rfl⟩ G_ hG_
 simp only [zn] at hG_; subst hG_
 first | refine op_y (y_conv Hdr.un_41 Hdr.un_42 rfl (wu32 (by omega) (by omega))) rfl ?_ | refine op_y (y_conv Hdr.un_41 Hdr.un_42 rfl rfl) rfl ?_
 refine op_y (y_shlr (a := hf l j) (b := 16) (hf l j * 65536) rfl rfl rfl rfl rfl (by decide) rfl (by show _ < 4294967296; omega)) rfl ?_
 refine op_y (y_move rfl) rfl ?_
 refine op_y (y_move rfl) rfl ?_
 first | refine op_y (y_add rfl rfl (wi64 (by omega) (by omega))) rfl ?_ | refine op_y (y_add rfl rfl rfl) rfl ?_
 apply op_c Hdr.ca_83 rfl rfl (fun e he_ => half_ct e l (j + 2) (by omega) hl)
 ·exact sx
 rintro _ _ ⟨rfl, rfl⟩ G_ hG_
 simp only [zn] at hG_; subst hG_
 first | refine op_y (y_conv Hdr.un_41 Hdr.un_42 rfl (wu32 (by omega) (by omega))) rfl ?_ | refine op_y (y_conv Hdr.un_41 Hdr.un_42 rfl rfl) rfl ?_
 refine op_y (y_addr (wd l j) rfl rfl rfl rfl rfl rfl (wd_lt l j)) rfl ?_
 refine op_y (y_assign rfl) rfl ?_
 refine op_nil ?_
 refine ent_then ?_
 refine cd_ret ?_
 refine ent_ret1 rfl rfl ⟨_, ⟨rfl, rfl⟩, fun w h => h⟩
end Go.Proofs.YtfkadaodnaaceaaGreatDoor
