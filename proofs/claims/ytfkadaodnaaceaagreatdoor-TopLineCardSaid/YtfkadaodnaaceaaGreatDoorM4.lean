/- TopLine answers true at every input, and its arguments read as they did: part 4; conditions: the row's own. -/
import Derived.Test.YtfkadaodnaaceaaGreatDoorM3
set_option linter.all false
set_option linter.unusedVariables false
set_option linter.unusedSimpArgs false
/- Datagrams' headers: rows of numbers, copies of strings, the form. -/
namespace Go.Proofs.YtfkadaodnaaceaaGreatDoor
open Go Go.SL
theorem Hdr2.ca_83 : callable Tryz.prog 83 = true := by kernel_rfl
theorem Hdr2.ca_146 : callable Tryz.prog 146 = true := by kernel_rfl
theorem Hdr2.co_5 : Tryz.prog.cellsOf 5 = 1 := by kernel_rfl
theorem Hdr2.sc_41 : scalarT Tryz.prog 41 = true := by kernel_rfl
theorem Hdr2.sl_281 : sliceK Tryz.prog 281 = some (41, 1, 2) := by kernel_rfl
theorem Hdr2.sl_282 : sliceK Tryz.prog 282 = some (5, 1, 1) := by kernel_rfl
theorem Hdr2.un_3 : Tryz.prog.underlying 3 = some (.int .i64) := by kernel_rfl
theorem Hdr2.un_5 : Tryz.prog.underlying 5 = some (.int .u8) := by kernel_rfl
theorem Hdr2.un_9 : Tryz.prog.underlying 9 = some (.string) := by kernel_rfl
theorem Hdr2.un_41 : Tryz.prog.underlying 41 = some (.int .u16) := by kernel_rfl
theorem Hdr2.un_281 : Tryz.prog.underlying 281 = some (.slice 41) := by kernel_rfl
theorem Hdr2.un_282 : Tryz.prog.underlying 282 = some (.slice 5) := by kernel_rfl
theorem Hdr2.un_350 : Tryz.prog.underlying 350 = some (.pointer 5) := by kernel_rfl
theorem Hdr2.ze_5 : zeroC Tryz.prog 5 = some [.int .u8 0] := by kernel_rfl
set_option maxRecDepth 100000
set_option maxHeartbeats 1000000
abbrev u16c (n : Nat) : List Value := [.int .u16 n]
theorem u16c1 (n : Nat) : (u16c n).length = 1 := rfl
theorem halves_ct (c : Cx) (b : Nat) (ns : List Nat) (cs : List Value) (hcs : cs = flat u16c ns ++ []) (hns : ∀ n ∈ ns, n < 65536) (hl : ns.length ≤ 100) (k0 : Nat) (hk0 : k0 = ns.length) :
 Ct Tryz.prog 84 #[.slice (some ⟨b, 0, none⟩) k0 k0] c [pt b 41 cs] fun v L => v = sv (hvs ns) ∧ L = [] := by
 subst hk0 hcs
 refine ct_fn (args := [.slice (some ⟨b, 0, none⟩) ns.length ns.length]) [(0, .slice (some ⟨b, 0, none⟩) ns.length ns.length)] Tryz.func84 rfl Tryz.ntmps84 rfl ⟨rfl, trivial⟩ ?_
 refine cd_to (L' := [ownS 5 1 none 0 0 [], pt b 41 (flat u16c ns ++ [])]) (fun w h => ownS_nil h) ?_
 refine cd_seq ?_
 refine cd_region [0] ?_
 refine op_y (y_assign rfl) rfl ?_
 refine op_nil ?_
 refine ent_then ?_
 refine cd_seq ?_
 refine cd_region [0] ?_
 refine op_y (y_assign rfl) rfl ?_
 refine op_nil ?_
 refine ent_then ?_
 refine cd_seq ?_
 refine cd_seq ?_
 refine cd_region [0, 0, 0] ?_
 refine op_y (y_move rfl) rfl ?_
 refine op_y (y_len Hdr2.un_281 rfl) rfl ?_
 refine op_y (y_move rfl) rfl ?_
 refine op_nil ?_
 refine ent_then ?_
 refine cd_block ?_
 refine cd_loop (α := Option Addr × Nat × Nat) (fun x => x.2.2 ≤ ns.length) (fun x => ns.length - x.2.2) (fun x => [(3, .slice x.1 (2 * x.2.2) x.2.1), (6, .slice (some ⟨b, 0, none⟩) ns.length ns.length), (7, .int .i64 ns.length), (8, .int .i64 x.2.2)]) (fun x => [ownS 5 1 x.1 (2 * x.2.2) x.2.1 (flat bc (hvs (ns.take x.2.2))), pt b 41 (flat u16c ns ++ [])]) (none, 0, 0) (Nat.zero_le _) ⟨rfl, rfl, rfl, rfl, trivial⟩ (fun w h => ?_) ?_
 ·exact h
 rintro ⟨A, cap, k⟩ hk
 simp only [] at hk ⊢
 by_cases hlt : k < ns.length
 ·skip
  obtain ⟨n, hn⟩ : ∃ n, ns[k]? = some n := ⟨_, List.getElem?_eq_getElem hlt⟩
  have hn16 : n < 65536 := hns n (List.mem_of_getElem? hn)
  obtain ⟨u1, hu1⟩ : ∃ u, u = UInt8.ofNat (n / 256) := ⟨_, rfl⟩
  obtain ⟨u2, hu2⟩ : ∃ u, u = UInt8.ofNat n := ⟨_, rfl⟩
  have e1 : n / 256 % 2 ^ 8 = u1.toNat := by rw [hu1]; simp
  have e2 : n % 2 ^ 8 = u2.toNat := by rw [hu2]; simp
  refine cd_seq ?_
  refine cd_region [0] ?_
  first | refine op_y (y_lt rfl rfl (decide_eq_true (by omega))) rfl ?_ | refine op_y (y_lt rfl rfl (decide_eq_false (by omega))) rfl ?_ | refine op_y (y_lt rfl rfl rfl) rfl ?_
  refine op_nil ?_
  refine ent_then ?_
  refine cd_seq ?_
  refine cd_ift rfl ?_
  refine cd_skip ?_
  refine ent_then ?_
  refine cd_seq ?_
  refine cd_block ?_
  refine cd_seq ?_
  refine cd_region [0, 1, 0] ?_
  first | refine op_y (y_ix0 (j := k) Hdr2.sl_281 rfl rfl (by omega) (by omega)) rfl ?_ | refine op_y (y_ix (j := k) Hdr2.sl_281 rfl rfl (by omega) (by omega)) rfl ?_ | refine op_y (y_ixa (j := k) Hdr2.sl_281 rfl rfl (by omega) (by omega)) rfl ?_
  apply op_ld Hdr2.sc_41 rfl rfl
  ·exact rm
  ·exact flat_get u16c1 (j := 0) [] hn (by decide) rfl
  refine op_y (y_assign rfl) rfl ?_
  refine op_nil ?_
  refine ent_then ?_
  refine cd_region [0, 0, 0, 0, 0, 0, 2, 2, 0] ?_
  refine op_y (y_move rfl) rfl ?_
  refine op_y (y_move rfl) rfl ?_
  refine op_y (y_shrr (a := n) (b := 8) (n / 256) rfl rfl rfl rfl (by decide) rfl) rfl ?_
  refine op_y (y_convr (a := n / 256) u1.toNat rfl Hdr2.un_41 Hdr2.un_5 rfl rfl e1) rfl ?_
  refine op_y (y_move rfl) rfl ?_
  refine op_y (y_convr (a := n) u2.toNat rfl Hdr2.un_41 Hdr2.un_5 rfl rfl e2) rfl ?_
  apply op_bslice Hdr2.sl_282 Hdr2.ze_5 rfl rfl rfl rfl rfl
  ·(first | ((try simp [fillL, splice, Value.cells, Nat.zero]) <;> rfl) | rfl)
  intro b18
  apply op_append Hdr2.sl_282 Hdr2.ze_5 rfl rfl rfl (by decide) rfl
  ·exact rm
  ·(apply rds_all; exact rm)
  ·first | rfl | simp
  ·first | rfl | simp [ones]
  ·omega
  ·omega
  ·omega
  intro A19 c19
  refine op_y (y_assign rfl) rfl ?_
  refine op_nil ?_
  refine ent_block ?_
  refine ent_then ?_
  refine cd_region [0, 0] ?_
  first | refine op_y (y_add rfl rfl (wi64 (by omega) (by omega))) rfl ?_ | refine op_y (y_add rfl rfl rfl) rfl ?_
  refine op_y (y_move rfl) rfl ?_
  refine op_nil ?_
  refine ent_back (A19, c19, k + 1) hlt (by show ns.length - (k + 1) < _; omega) ⟨rfl, rfl, rfl, rfl, trivial⟩ (fun w h => ?_)
  have e3 : flat bc (hvs (ns.take (k + 1))) = flat bc (hvs (ns.take k)) ++ [.int .u8 (u1.toNat : Nat), .int .u8 (u2.toNat : Nat)] := by
   rw [List.take_succ, hn, hvs_append, flat_append, hu1, hu2]; rfl
  show Sat [ownS 5 1 A19 (2 * k + 2) c19 (flat bc (hvs (ns.take (k + 1)))), pt b 41 (flat u16c ns ++ [])] c w
  rw [e3]
  apply Sat.only (h := h)
  exact sx
 ·skip
  have hkn : k = ns.length := by omega
  subst hkn
  rw [List.take_length]
  have hvl := hvs_length ns
  refine cd_seq ?_
  refine cd_region [0] ?_
  first | refine op_y (y_lt rfl rfl (decide_eq_true (by omega))) rfl ?_ | refine op_y (y_lt rfl rfl (decide_eq_false (by omega))) rfl ?_ | refine op_y (y_lt rfl rfl rfl) rfl ?_
  refine op_nil ?_
  refine ent_then ?_
  refine cd_seq ?_
  refine cd_iff rfl ?_
  refine cd_exit ?_
  refine ent_thn_exit ?_
  refine ent_then_exit ?_
  refine ent_block_exit ?_
  refine ent_then ?_
  refine cd_seq ?_
  refine cd_region [0, 1, 0] ?_
  refine op_y (y_move rfl) rfl ?_
  apply op_b2s Hdr2.sl_282 Hdr2.un_5 Hdr2.un_9 rfl rfl
  ·exact rm
  ·first | rfl | simp | omega
  refine op_y (y_assign rfl) rfl ?_
  refine op_nil ?_
  refine ent_then ?_
  refine cd_ret ?_
  refine ent_ret1 rfl rfl ⟨_, ⟨rfl, rfl⟩, fun w h => h.nil_of⟩
theorem clone0_ct (c : Cx) (l : List UInt8) (hl : l.length ≤ 70000) : Ct Tryz.prog 146 #[sv l] c [] fun v L => v = sv l ∧ L = [] := by
 refine ct_fn (args := [sv l]) [(0, sv l)] Tryz.func146 rfl Tryz.ntmps146 rfl ⟨rfl, trivial⟩ ?_
 by_cases h0 : l = []
 ·subst h0
  skip
  refine cd_seq ?_
  refine cd_region [0] ?_
  refine op_y (y_assign rfl) rfl ?_
  refine op_nil ?_
  refine ent_then ?_
  refine cd_seq ?_
  refine cd_seq ?_
  refine cd_region [0, 0, 0] ?_
  refine op_y (y_move rfl) rfl ?_
  first | refine op_y (y_slen Hdr2.un_9 rfl) rfl ?_ | refine op_y (y_lens Hdr2.un_9 rfl) rfl ?_
  first | refine op_y (y_eq rfl rfl (eqT (by omega))) rfl ?_ | refine op_y (y_eq rfl rfl (eqF (by omega))) rfl ?_ | refine op_y (y_eq rfl rfl rfl) rfl ?_
  refine op_nil ?_
  refine ent_then ?_
  refine cd_ift rfl ?_
  refine cd_seq ?_
  refine cd_region [0] ?_
  refine op_y (y_assign rfl) rfl ?_
  refine op_nil ?_
  refine ent_then ?_
  refine cd_ret ?_
  refine ent_thn_ret ?_
  refine ent_ret1 rfl rfl ⟨_, ⟨rfl, rfl⟩, fun w h => h⟩
 ·skip
  have hp : 0 < l.length := List.length_pos_iff.2 h0
  refine cd_seq ?_
  refine cd_region [0] ?_
  refine op_y (y_assign rfl) rfl ?_
  refine op_nil ?_
  refine ent_then ?_
  refine cd_seq ?_
  refine cd_seq ?_
  refine cd_region [0, 0, 0] ?_
  refine op_y (y_move rfl) rfl ?_
  first | refine op_y (y_slen Hdr2.un_9 rfl) rfl ?_ | refine op_y (y_lens Hdr2.un_9 rfl) rfl ?_
  first | refine op_y (y_eq rfl rfl (eqT (by omega))) rfl ?_ | refine op_y (y_eq rfl rfl (eqF (by omega))) rfl ?_ | refine op_y (y_eq rfl rfl rfl) rfl ?_
  refine op_nil ?_
  refine ent_then ?_
  refine cd_iff rfl ?_
  refine cd_skip ?_
  refine ent_then ?_
  refine cd_seq ?_
  refine cd_region [0, 0, 2, 0] ?_
  refine op_y (y_move rfl) rfl ?_
  first | refine op_y (y_slen Hdr2.un_9 rfl) rfl ?_ | refine op_y (y_lens Hdr2.un_9 rfl) rfl ?_
  apply op_mks (k := l.length) Hdr2.sl_282 Hdr2.ze_5 rfl rfl rfl rfl
  ·first | rfl | omega
  ·decide
  ·omega
  ·omega
  ·omega
  intro b9
  refine op_y (y_assign rfl) rfl ?_
  refine op_nil ?_
  refine ent_then ?_
  refine cd_seq ?_
  refine cd_region [0, 0, 2] ?_
  refine op_y (y_move rfl) rfl ?_
  refine op_y (y_move rfl) rfl ?_
  apply op_copys Hdr2.sl_282 rfl rfl rfl
  ·exact rm
  ·first | rfl | omega
  ·first | rfl | (simp; done) | omega
  refine op_nil ?_
  refine ent_then ?_
  refine cd_seq ?_
  refine cd_region [0, 0, 0, 0, 2, 0] ?_
  refine op_y (y_move rfl) rfl ?_
  first | refine op_y (y_ix0 Hdr2.sl_282 rfl rfl rfl (by omega)) rfl ?_ | refine op_y (y_ix0 Hdr2.sl_282 rfl rfl (Int.toNat_of_nonneg (by omega)).symm (by omega)) rfl ?_ | refine op_y (y_ix Hdr2.sl_282 rfl rfl rfl (by omega)) rfl ?_ | refine op_y (y_ix Hdr2.sl_282 rfl rfl (Int.toNat_of_nonneg (by omega)).symm (by omega)) rfl ?_ | refine op_y (y_ixa Hdr2.sl_282 rfl rfl rfl (by omega)) rfl ?_ | refine op_y (y_ixa Hdr2.sl_282 rfl rfl (Int.toNat_of_nonneg (by omega)).symm (by omega)) rfl ?_
  refine op_y (y_move rfl) rfl ?_
  refine op_y (y_len Hdr2.un_282 rfl) rfl ?_
  apply op_ustr Hdr2.un_350 Hdr2.co_5 rfl rfl rfl
  ·exact rm
  ·first | rfl | omega
  ·assumption
  ·exact (by first | omega | (simp only [List.length_append, List.length_cons, List.length_nil, List.length_take, List.length_drop]; omega) | (simp; omega) | (simp; done))
  refine op_y (y_assign rfl) rfl ?_
  refine op_nil ?_
  refine ent_then ?_
  refine cd_ret ?_
  refine ent_ret1 rfl rfl ⟨_, ⟨rfl, rfl⟩, fun w h => h⟩
theorem clone_ct (c : Cx) (l : List UInt8) (hl : l.length ≤ 70000) : Ct Tryz.prog 88 #[sv l] c [] fun v L => v = sv l ∧ L = [] := by
 refine ct_fn (args := [sv l]) [(0, sv l)] Tryz.func88 rfl Tryz.ntmps88 rfl ⟨rfl, trivial⟩ ?_
 refine cd_seq ?_
 refine cd_region [0] ?_
 refine op_y (y_assign rfl) rfl ?_
 refine op_nil ?_
 refine ent_then ?_
 refine cd_seq ?_
 refine cd_region [0, 2, 0] ?_
 refine op_y (y_move rfl) rfl ?_
 apply op_c Hdr2.ca_146 rfl rfl (fun e he_ => clone0_ct e l hl)
 ·exact sx
 rintro _ _ ⟨rfl, rfl⟩ G_ hG_
 simp only [zn] at hG_; subst hG_
 refine op_y (y_assign rfl) rfl ?_
 refine op_nil ?_
 refine ent_then ?_
 refine cd_ret ?_
 refine ent_ret1 rfl rfl ⟨_, ⟨rfl, rfl⟩, fun w h => h⟩
theorem form_ct (c : Cx) (l : List UInt8) (h28 : 28 ≤ l.length) (hl : l.length ≤ 70000) : Ct Tryz.prog 86 #[sv l] c [] fun v L => v = .bool (formB l) ∧ L = [] := by
 refine ct_fn (args := [sv l]) [(0, sv l)] Tryz.func86 rfl Tryz.ntmps86 rfl ⟨rfl, trivial⟩ ?_
 have hb1 := bt_lt l 1
 by_cases h0 : bt l 0 = 69
 ·skip
  by_cases h1 : bt l 1 % 4 = 0
  ·skip
   refine cd_seq ?_
   refine cd_region [0] ?_
   refine op_y (y_assign rfl) rfl ?_
   refine op_nil ?_
   refine ent_then ?_
   refine cd_seq ?_
   refine cd_region [0, 0, 0, 0, 0, 0, 0, 0, 0, 0, 0, 2, 0, 0, 0, 0, 0, 0, 0, 2, 0, 0, 0, 0, 0, 0, 0, 0, 0, 2, 0, 0, 0, 0, 0, 0, 0, 0, 2, 0, 0, 0] ?_
   refine op_y (y_move rfl) rfl ?_
   refine op_y (y_sidx (j := 0) Hdr2.un_9 rfl rfl rfl (by first | omega | (simp only [List.length_append, List.length_cons, List.length_nil, List.length_take, List.length_drop]; omega) | (simp; omega) | (simp; done))) rfl ?_
   first | refine op_y (y_eq rfl rfl (eqT (by omega))) rfl ?_ | refine op_y (y_eq rfl rfl (eqF (by omega))) rfl ?_ | refine op_y (y_eq rfl rfl rfl) rfl ?_
   refine op_y (y_move rfl) rfl ?_
   first
    | refine op_s1 rfl rfl ⟨rfl, rfl⟩ ?_
    | refine op_s2 rfl rfl ⟨rfl, rfl⟩ ?_
    | (refine op_g rfl rfl ?_
       refine op_y (y_move rfl) rfl ?_)
   first
    | refine op_s1 rfl rfl ⟨rfl, rfl⟩ ?_
    | refine op_s2 rfl rfl ⟨rfl, rfl⟩ ?_
    | (refine op_g rfl rfl ?_
       refine op_y (y_sidx (j := 1) Hdr2.un_9 rfl rfl rfl (by first | omega | (simp only [List.length_append, List.length_cons, List.length_nil, List.length_take, List.length_drop]; omega) | (simp; omega) | (simp; done))) rfl ?_)
   first
    | refine op_s1 rfl rfl ⟨rfl, rfl⟩ ?_
    | refine op_s2 rfl rfl ⟨rfl, rfl⟩ ?_
    | (refine op_g rfl rfl ?_
       first | refine op_y (y_remn rfl rfl (by omega) (by omega)) rfl ?_ | refine op_y (y_rem rfl rfl (by omega) rfl) rfl ?_)
   first
    | refine op_s1 rfl rfl ⟨rfl, rfl⟩ ?_
    | refine op_s2 rfl rfl ⟨rfl, rfl⟩ ?_
    | (refine op_g rfl rfl ?_
       first | refine op_y (y_eq rfl rfl (eqT (by omega))) rfl ?_ | refine op_y (y_eq rfl rfl (eqF (by omega))) rfl ?_ | refine op_y (y_eq rfl rfl rfl) rfl ?_)
   first | refine op_y (y_pickt rfl rfl) rfl ?_ | refine op_y (y_pickf rfl rfl) rfl ?_ | refine op_y (y_pick rfl rfl rfl) rfl ?_
   refine op_y (y_move rfl) rfl ?_
   first
    | refine op_s1 rfl rfl ⟨rfl, rfl⟩ ?_
    | refine op_s2 rfl rfl ⟨rfl, rfl⟩ ?_
    | (refine op_g rfl rfl ?_
       refine op_y (y_move rfl) rfl ?_)
   refine op_g rfl rfl ?_
   apply op_c Hdr2.ca_83 rfl rfl (fun e he_ => half_ct e l 2 (by omega) hl)
   ·exact sx
   rintro _ _ ⟨rfl, rfl⟩ G_ hG_
   simp only [zn] at hG_; subst hG_
   have hh2 := hf_lt l 2
   by_cases h2 : hf l 2 = l.length
   ·skip
    first
     | refine op_s1 rfl rfl ⟨rfl, rfl⟩ ?_
     | refine op_s2 rfl rfl ⟨rfl, rfl⟩ ?_
     | (refine op_g rfl rfl ?_
        first | refine op_y (y_conv Hdr2.un_41 Hdr2.un_3 rfl (wi64 (by omega) (by omega))) rfl ?_ | refine op_y (y_conv Hdr2.un_41 Hdr2.un_3 rfl rfl) rfl ?_)
    first
     | refine op_s1 rfl rfl ⟨rfl, rfl⟩ ?_
     | refine op_s2 rfl rfl ⟨rfl, rfl⟩ ?_
     | (refine op_g rfl rfl ?_
        refine op_y (y_move rfl) rfl ?_)
    first
     | refine op_s1 rfl rfl ⟨rfl, rfl⟩ ?_
     | refine op_s2 rfl rfl ⟨rfl, rfl⟩ ?_
     | (refine op_g rfl rfl ?_
        first | refine op_y (y_slen Hdr2.un_9 rfl) rfl ?_ | refine op_y (y_lens Hdr2.un_9 rfl) rfl ?_)
    first
     | refine op_s1 rfl rfl ⟨rfl, rfl⟩ ?_
     | refine op_s2 rfl rfl ⟨rfl, rfl⟩ ?_
     | (refine op_g rfl rfl ?_
        first | refine op_y (y_eq rfl rfl (eqT (by omega))) rfl ?_ | refine op_y (y_eq rfl rfl (eqF (by omega))) rfl ?_ | refine op_y (y_eq rfl rfl rfl) rfl ?_)
    first | refine op_y (y_pickt rfl rfl) rfl ?_ | refine op_y (y_pickf rfl rfl) rfl ?_ | refine op_y (y_pick rfl rfl rfl) rfl ?_
    refine op_y (y_move rfl) rfl ?_
    first
     | refine op_s1 rfl rfl ⟨rfl, rfl⟩ ?_
     | refine op_s2 rfl rfl ⟨rfl, rfl⟩ ?_
     | (refine op_g rfl rfl ?_
        refine op_y (y_move rfl) rfl ?_)
    refine op_g rfl rfl ?_
    apply op_c Hdr2.ca_83 rfl rfl (fun e he_ => half_ct e l 6 (by omega) hl)
    ·exact sx
    rintro _ _ ⟨rfl, rfl⟩ G_ hG_
    simp only [zn] at hG_; subst hG_
    by_cases h3 : hf l 6 = 0
    ·skip
     by_cases h4 : bt l 9 = 17
     ·skip
      first
       | refine op_s1 rfl rfl ⟨rfl, rfl⟩ ?_
       | refine op_s2 rfl rfl ⟨rfl, rfl⟩ ?_
       | (refine op_g rfl rfl ?_
          first | refine op_y (y_eq rfl rfl (eqT (by omega))) rfl ?_ | refine op_y (y_eq rfl rfl (eqF (by omega))) rfl ?_ | refine op_y (y_eq rfl rfl rfl) rfl ?_)
      first | refine op_y (y_pickt rfl rfl) rfl ?_ | refine op_y (y_pickf rfl rfl) rfl ?_ | refine op_y (y_pick rfl rfl rfl) rfl ?_
      refine op_y (y_move rfl) rfl ?_
      first
       | refine op_s1 rfl rfl ⟨rfl, rfl⟩ ?_
       | refine op_s2 rfl rfl ⟨rfl, rfl⟩ ?_
       | (refine op_g rfl rfl ?_
          refine op_y (y_move rfl) rfl ?_)
      first
       | refine op_s1 rfl rfl ⟨rfl, rfl⟩ ?_
       | refine op_s2 rfl rfl ⟨rfl, rfl⟩ ?_
       | (refine op_g rfl rfl ?_
          refine op_y (y_sidx (j := 9) Hdr2.un_9 rfl rfl rfl (by first | omega | (simp only [List.length_append, List.length_cons, List.length_nil, List.length_take, List.length_drop]; omega) | (simp; omega) | (simp; done))) rfl ?_)
      first
       | refine op_s1 rfl rfl ⟨rfl, rfl⟩ ?_
       | refine op_s2 rfl rfl ⟨rfl, rfl⟩ ?_
       | (refine op_g rfl rfl ?_
          first | refine op_y (y_eq rfl rfl (eqT (by omega))) rfl ?_ | refine op_y (y_eq rfl rfl (eqF (by omega))) rfl ?_ | refine op_y (y_eq rfl rfl rfl) rfl ?_)
      first | refine op_y (y_pickt rfl rfl) rfl ?_ | refine op_y (y_pickf rfl rfl) rfl ?_ | refine op_y (y_pick rfl rfl rfl) rfl ?_
      refine op_y (y_move rfl) rfl ?_
      first
       | refine op_s1 rfl rfl ⟨rfl, rfl⟩ ?_
       | refine op_s2 rfl rfl ⟨rfl, rfl⟩ ?_
       | (refine op_g rfl rfl ?_
          refine op_y (y_move rfl) rfl ?_)
      refine op_g rfl rfl ?_
      apply op_c Hdr2.ca_83 rfl rfl (fun e he_ => half_ct e l 24 (by omega) hl)
      ·exact sx
      rintro _ _ ⟨rfl, rfl⟩ G_ hG_
      simp only [zn] at hG_; subst hG_
      have hh24 := hf_lt l 24
      by_cases h5 : hf l 24 + 20 = l.length
      ·skip
       first
        | refine op_s1 rfl rfl ⟨rfl, rfl⟩ ?_
        | refine op_s2 rfl rfl ⟨rfl, rfl⟩ ?_
        | (refine op_g rfl rfl ?_
           first | refine op_y (y_conv Hdr2.un_41 Hdr2.un_3 rfl (wi64 (by omega) (by omega))) rfl ?_ | refine op_y (y_conv Hdr2.un_41 Hdr2.un_3 rfl rfl) rfl ?_)
       first
        | refine op_s1 rfl rfl ⟨rfl, rfl⟩ ?_
        | refine op_s2 rfl rfl ⟨rfl, rfl⟩ ?_
        | (refine op_g rfl rfl ?_
           refine op_y (y_move rfl) rfl ?_)
       first
        | refine op_s1 rfl rfl ⟨rfl, rfl⟩ ?_
        | refine op_s2 rfl rfl ⟨rfl, rfl⟩ ?_
        | (refine op_g rfl rfl ?_
           first | refine op_y (y_slen Hdr2.un_9 rfl) rfl ?_ | refine op_y (y_lens Hdr2.un_9 rfl) rfl ?_)
       first
        | refine op_s1 rfl rfl ⟨rfl, rfl⟩ ?_
        | refine op_s2 rfl rfl ⟨rfl, rfl⟩ ?_
        | (refine op_g rfl rfl ?_
           first | refine op_y (y_sub rfl rfl (wi64 (by omega) (by omega))) rfl ?_ | refine op_y (y_sub rfl rfl rfl) rfl ?_)
       first
        | refine op_s1 rfl rfl ⟨rfl, rfl⟩ ?_
        | refine op_s2 rfl rfl ⟨rfl, rfl⟩ ?_
        | (refine op_g rfl rfl ?_
           first | refine op_y (y_eq rfl rfl (eqT (by omega))) rfl ?_ | refine op_y (y_eq rfl rfl (eqF (by omega))) rfl ?_ | refine op_y (y_eq rfl rfl rfl) rfl ?_)
       first | refine op_y (y_pickt rfl rfl) rfl ?_ | refine op_y (y_pickf rfl rfl) rfl ?_ | refine op_y (y_pick rfl rfl rfl) rfl ?_
       refine op_y (y_move rfl) rfl ?_
       first
        | refine op_s1 rfl rfl ⟨rfl, rfl⟩ ?_
        | refine op_s2 rfl rfl ⟨rfl, rfl⟩ ?_
        | (refine op_g rfl rfl ?_
           refine op_y (y_move rfl) rfl ?_)
       refine op_g rfl rfl ?_
       apply op_c Hdr2.ca_83 rfl rfl (fun e he_ => half_ct e l 26 (by omega) hl)
       ·exact sx
       rintro _ _ ⟨rfl, rfl⟩ G_ hG_
       simp only [zn] at hG_; subst hG_
       by_cases h6 : hf l 26 = 0
       ·skip
        first
         | refine op_s1 rfl rfl ⟨rfl, rfl⟩ ?_
         | refine op_s2 rfl rfl ⟨rfl, rfl⟩ ?_
         | (refine op_g rfl rfl ?_
            first | refine op_y (y_eq rfl rfl (eqT (by omega))) rfl ?_ | refine op_y (y_eq rfl rfl (eqF (by omega))) rfl ?_ | refine op_y (y_eq rfl rfl rfl) rfl ?_)
        first | refine op_y (y_pickt rfl rfl) rfl ?_ | refine op_y (y_pickf rfl rfl) rfl ?_ | refine op_y (y_pick rfl rfl rfl) rfl ?_
        refine op_y (y_assign rfl) rfl ?_
        refine op_nil ?_
        refine ent_then ?_
        refine cd_ret ?_
        refine ent_ret1 rfl rfl ⟨_, ⟨by simp [formB, h0, h1, h2, h3, h4, h5, h6], rfl⟩, fun w h => h⟩
       ·skip
        first
         | refine op_s1 rfl rfl ⟨rfl, rfl⟩ ?_
         | refine op_s2 rfl rfl ⟨rfl, rfl⟩ ?_
         | (refine op_g rfl rfl ?_
            first | refine op_y (y_eq rfl rfl (eqT (by omega))) rfl ?_ | refine op_y (y_eq rfl rfl (eqF (by omega))) rfl ?_ | refine op_y (y_eq rfl rfl rfl) rfl ?_)
        first | refine op_y (y_pickt rfl rfl) rfl ?_ | refine op_y (y_pickf rfl rfl) rfl ?_ | refine op_y (y_pick rfl rfl rfl) rfl ?_
        refine op_y (y_assign rfl) rfl ?_
        refine op_nil ?_
        refine ent_then ?_
        refine cd_ret ?_
        refine ent_ret1 rfl rfl ⟨_, ⟨by simp [formB, h0, h1, h2, h3, h4, h5, h6], rfl⟩, fun w h => h⟩
      ·skip
       first
        | refine op_s1 rfl rfl ⟨rfl, rfl⟩ ?_
        | refine op_s2 rfl rfl ⟨rfl, rfl⟩ ?_
        | (refine op_g rfl rfl ?_
           first | refine op_y (y_conv Hdr2.un_41 Hdr2.un_3 rfl (wi64 (by omega) (by omega))) rfl ?_ | refine op_y (y_conv Hdr2.un_41 Hdr2.un_3 rfl rfl) rfl ?_)
       first
        | refine op_s1 rfl rfl ⟨rfl, rfl⟩ ?_
        | refine op_s2 rfl rfl ⟨rfl, rfl⟩ ?_
        | (refine op_g rfl rfl ?_
           refine op_y (y_move rfl) rfl ?_)
       first
        | refine op_s1 rfl rfl ⟨rfl, rfl⟩ ?_
        | refine op_s2 rfl rfl ⟨rfl, rfl⟩ ?_
        | (refine op_g rfl rfl ?_
           first | refine op_y (y_slen Hdr2.un_9 rfl) rfl ?_ | refine op_y (y_lens Hdr2.un_9 rfl) rfl ?_)
       first
        | refine op_s1 rfl rfl ⟨rfl, rfl⟩ ?_
        | refine op_s2 rfl rfl ⟨rfl, rfl⟩ ?_
        | (refine op_g rfl rfl ?_
           first | refine op_y (y_sub rfl rfl (wi64 (by omega) (by omega))) rfl ?_ | refine op_y (y_sub rfl rfl rfl) rfl ?_)
       first
        | refine op_s1 rfl rfl ⟨rfl, rfl⟩ ?_
        | refine op_s2 rfl rfl ⟨rfl, rfl⟩ ?_
        | (refine op_g rfl rfl ?_
           first | refine op_y (y_eq rfl rfl (eqT (by omega))) rfl ?_ | refine op_y (y_eq rfl rfl (eqF (by omega))) rfl ?_ | refine op_y (y_eq rfl rfl rfl) rfl ?_)
       first | refine op_y (y_pickt rfl rfl) rfl ?_ | refine op_y (y_pickf rfl rfl) rfl ?_ | refine op_y (y_pick rfl rfl rfl) rfl ?_
       refine op_y (y_move rfl) rfl ?_
       first
        | refine op_s1 rfl rfl ⟨rfl, rfl⟩ ?_
        | refine op_s2 rfl rfl ⟨rfl, rfl⟩ ?_
        | (refine op_g rfl rfl ?_
           refine op_y (y_move rfl) rfl ?_)
       first | refine op_s1 rfl rfl ⟨rfl, rfl⟩ ?_ | refine op_s2 rfl rfl ⟨rfl, rfl⟩ ?_
       first
        | refine op_s1 rfl rfl ⟨rfl, rfl⟩ ?_
        | refine op_s2 rfl rfl ⟨rfl, rfl⟩ ?_
        | (refine op_g rfl rfl ?_
           first | refine op_y (y_eq rfl rfl (eqT (by omega))) rfl ?_ | refine op_y (y_eq rfl rfl (eqF (by omega))) rfl ?_ | refine op_y (y_eq rfl rfl rfl) rfl ?_)
       first | refine op_y (y_pickt rfl rfl) rfl ?_ | refine op_y (y_pickf rfl rfl) rfl ?_ | refine op_y (y_pick rfl rfl rfl) rfl ?_
       refine op_y (y_assign rfl) rfl ?_
       refine op_nil ?_
       refine ent_then ?_
       refine cd_ret ?_
       refine ent_ret1 rfl rfl ⟨_, ⟨by simp [formB, h0, h1, h2, h3, h4, h5], rfl⟩, fun w h => h⟩
     ·skip
      first
       | refine op_s1 rfl rfl ⟨rfl, rfl⟩ ?_
       | refine op_s2 rfl rfl ⟨rfl, rfl⟩ ?_
       | (refine op_g rfl rfl ?_
          first | refine op_y (y_eq rfl rfl (eqT (by omega))) rfl ?_ | refine op_y (y_eq rfl rfl (eqF (by omega))) rfl ?_ | refine op_y (y_eq rfl rfl rfl) rfl ?_)
      first | refine op_y (y_pickt rfl rfl) rfl ?_ | refine op_y (y_pickf rfl rfl) rfl ?_ | refine op_y (y_pick rfl rfl rfl) rfl ?_
      refine op_y (y_move rfl) rfl ?_
      first
       | refine op_s1 rfl rfl ⟨rfl, rfl⟩ ?_
       | refine op_s2 rfl rfl ⟨rfl, rfl⟩ ?_
       | (refine op_g rfl rfl ?_
          refine op_y (y_move rfl) rfl ?_)
      first
       | refine op_s1 rfl rfl ⟨rfl, rfl⟩ ?_
       | refine op_s2 rfl rfl ⟨rfl, rfl⟩ ?_
       | (refine op_g rfl rfl ?_
          refine op_y (y_sidx (j := 9) Hdr2.un_9 rfl rfl rfl (by first | omega | (simp only [List.length_append, List.length_cons, List.length_nil, List.length_take, List.length_drop]; omega) | (simp; omega) | (simp; done))) rfl ?_)
      first
       | refine op_s1 rfl rfl ⟨rfl, rfl⟩ ?_
       | refine op_s2 rfl rfl ⟨rfl, rfl⟩ ?_
       | (refine op_g rfl rfl ?_
          first | refine op_y (y_eq rfl rfl (eqT (by omega))) rfl ?_ | refine op_y (y_eq rfl rfl (eqF (by omega))) rfl ?_ | refine op_y (y_eq rfl rfl rfl) rfl ?_)
      first | refine op_y (y_pickt rfl rfl) rfl ?_ | refine op_y (y_pickf rfl rfl) rfl ?_ | refine op_y (y_pick rfl rfl rfl) rfl ?_
      refine op_y (y_move rfl) rfl ?_
      first
       | refine op_s1 rfl rfl ⟨rfl, rfl⟩ ?_
       | refine op_s2 rfl rfl ⟨rfl, rfl⟩ ?_
       | (refine op_g rfl rfl ?_
          refine op_y (y_move rfl) rfl ?_)
      first | refine op_s1 rfl rfl ⟨rfl, rfl⟩ ?_ | refine op_s2 rfl rfl ⟨rfl, rfl⟩ ?_
      first
       | refine op_s1 rfl rfl ⟨rfl, rfl⟩ ?_
       | refine op_s2 rfl rfl ⟨rfl, rfl⟩ ?_
       | (refine op_g rfl rfl ?_
          first | refine op_y (y_conv Hdr2.un_41 Hdr2.un_3 rfl (wi64 (by omega) (by omega))) rfl ?_ | refine op_y (y_conv Hdr2.un_41 Hdr2.un_3 rfl rfl) rfl ?_)
      first
       | refine op_s1 rfl rfl ⟨rfl, rfl⟩ ?_
       | refine op_s2 rfl rfl ⟨rfl, rfl⟩ ?_
       | (refine op_g rfl rfl ?_
          refine op_y (y_move rfl) rfl ?_)
      first
       | refine op_s1 rfl rfl ⟨rfl, rfl⟩ ?_
       | refine op_s2 rfl rfl ⟨rfl, rfl⟩ ?_
       | (refine op_g rfl rfl ?_
          first | refine op_y (y_slen Hdr2.un_9 rfl) rfl ?_ | refine op_y (y_lens Hdr2.un_9 rfl) rfl ?_)
      first
       | refine op_s1 rfl rfl ⟨rfl, rfl⟩ ?_
       | refine op_s2 rfl rfl ⟨rfl, rfl⟩ ?_
       | (refine op_g rfl rfl ?_
          first | refine op_y (y_sub rfl rfl (wi64 (by omega) (by omega))) rfl ?_ | refine op_y (y_sub rfl rfl rfl) rfl ?_)
      first
       | refine op_s1 rfl rfl ⟨rfl, rfl⟩ ?_
       | refine op_s2 rfl rfl ⟨rfl, rfl⟩ ?_
       | (refine op_g rfl rfl ?_
          first | refine op_y (y_eq rfl rfl (eqT (by omega))) rfl ?_ | refine op_y (y_eq rfl rfl (eqF (by omega))) rfl ?_ | refine op_y (y_eq rfl rfl rfl) rfl ?_)
      first | refine op_y (y_pickt rfl rfl) rfl ?_ | refine op_y (y_pickf rfl rfl) rfl ?_ | refine op_y (y_pick rfl rfl rfl) rfl ?_
      refine op_y (y_move rfl) rfl ?_
      first
       | refine op_s1 rfl rfl ⟨rfl, rfl⟩ ?_
       | refine op_s2 rfl rfl ⟨rfl, rfl⟩ ?_
       | (refine op_g rfl rfl ?_
          refine op_y (y_move rfl) rfl ?_)
      first | refine op_s1 rfl rfl ⟨rfl, rfl⟩ ?_ | refine op_s2 rfl rfl ⟨rfl, rfl⟩ ?_
      first
       | refine op_s1 rfl rfl ⟨rfl, rfl⟩ ?_
       | refine op_s2 rfl rfl ⟨rfl, rfl⟩ ?_
       | (refine op_g rfl rfl ?_
          first | refine op_y (y_eq rfl rfl (eqT (by omega))) rfl ?_ | refine op_y (y_eq rfl rfl (eqF (by omega))) rfl ?_ | refine op_y (y_eq rfl rfl rfl) rfl ?_)
      first | refine op_y (y_pickt rfl rfl) rfl ?_ | refine op_y (y_pickf rfl rfl) rfl ?_ | refine op_y (y_pick rfl rfl rfl) rfl ?_
      refine op_y (y_assign rfl) rfl ?_
      refine op_nil ?_
      refine ent_then ?_
      refine cd_ret ?_
      refine ent_ret1 rfl rfl ⟨_, ⟨by simp [formB, h0, h1, h2, h3, h4], rfl⟩, fun w h => h⟩
    ·skip
     first
      | refine op_s1 rfl rfl ⟨rfl, rfl⟩ ?_
      | refine op_s2 rfl rfl ⟨rfl, rfl⟩ ?_
      | (refine op_g rfl rfl ?_
         first | refine op_y (y_eq rfl rfl (eqT (by omega))) rfl ?_ | refine op_y (y_eq rfl rfl (eqF (by omega))) rfl ?_ | refine op_y (y_eq rfl rfl rfl) rfl ?_)
     first | refine op_y (y_pickt rfl rfl) rfl ?_ | refine op_y (y_pickf rfl rfl) rfl ?_ | refine op_y (y_pick rfl rfl rfl) rfl ?_
     refine op_y (y_move rfl) rfl ?_
     first
      | refine op_s1 rfl rfl ⟨rfl, rfl⟩ ?_
      | refine op_s2 rfl rfl ⟨rfl, rfl⟩ ?_
      | (refine op_g rfl rfl ?_
         refine op_y (y_move rfl) rfl ?_)
     first
      | refine op_s1 rfl rfl ⟨rfl, rfl⟩ ?_
      | refine op_s2 rfl rfl ⟨rfl, rfl⟩ ?_
      | (refine op_g rfl rfl ?_
         refine op_y (y_sidx (j := 9) Hdr2.un_9 rfl rfl rfl (by first | omega | (simp only [List.length_append, List.length_cons, List.length_nil, List.length_take, List.length_drop]; omega) | (simp; omega) | (simp; done))) rfl ?_)
     first
      | refine op_s1 rfl rfl ⟨rfl, rfl⟩ ?_
      | refine op_s2 rfl rfl ⟨rfl, rfl⟩ ?_
      | (refine op_g rfl rfl ?_
         first | refine op_y (y_eq rfl rfl (eqT (by omega))) rfl ?_ | refine op_y (y_eq rfl rfl (eqF (by omega))) rfl ?_ | refine op_y (y_eq rfl rfl rfl) rfl ?_)
     first | refine op_y (y_pickt rfl rfl) rfl ?_ | refine op_y (y_pickf rfl rfl) rfl ?_ | refine op_y (y_pick rfl rfl rfl) rfl ?_
     refine op_y (y_move rfl) rfl ?_
     first
      | refine op_s1 rfl rfl ⟨rfl, rfl⟩ ?_
      | refine op_s2 rfl rfl ⟨rfl, rfl⟩ ?_
      | (refine op_g rfl rfl ?_
         refine op_y (y_move rfl) rfl ?_)
     first | refine op_s1 rfl rfl ⟨rfl, rfl⟩ ?_ | refine op_s2 rfl rfl ⟨rfl, rfl⟩ ?_
     first
      | refine op_s1 rfl rfl ⟨rfl, rfl⟩ ?_
      | refine op_s2 rfl rfl ⟨rfl, rfl⟩ ?_
      | (refine op_g rfl rfl ?_
         first | refine op_y (y_conv Hdr2.un_41 Hdr2.un_3 rfl (wi64 (by omega) (by omega))) rfl ?_ | refine op_y (y_conv Hdr2.un_41 Hdr2.un_3 rfl rfl) rfl ?_)
     first
      | refine op_s1 rfl rfl ⟨rfl, rfl⟩ ?_
      | refine op_s2 rfl rfl ⟨rfl, rfl⟩ ?_
      | (refine op_g rfl rfl ?_
         refine op_y (y_move rfl) rfl ?_)
     first
      | refine op_s1 rfl rfl ⟨rfl, rfl⟩ ?_
      | refine op_s2 rfl rfl ⟨rfl, rfl⟩ ?_
      | (refine op_g rfl rfl ?_
         first | refine op_y (y_slen Hdr2.un_9 rfl) rfl ?_ | refine op_y (y_lens Hdr2.un_9 rfl) rfl ?_)
     first
      | refine op_s1 rfl rfl ⟨rfl, rfl⟩ ?_
      | refine op_s2 rfl rfl ⟨rfl, rfl⟩ ?_
      | (refine op_g rfl rfl ?_
         first | refine op_y (y_sub rfl rfl (wi64 (by omega) (by omega))) rfl ?_ | refine op_y (y_sub rfl rfl rfl) rfl ?_)
     first
      | refine op_s1 rfl rfl ⟨rfl, rfl⟩ ?_
      | refine op_s2 rfl rfl ⟨rfl, rfl⟩ ?_
      | (refine op_g rfl rfl ?_
         first | refine op_y (y_eq rfl rfl (eqT (by omega))) rfl ?_ | refine op_y (y_eq rfl rfl (eqF (by omega))) rfl ?_ | refine op_y (y_eq rfl rfl rfl) rfl ?_)
     first | refine op_y (y_pickt rfl rfl) rfl ?_ | refine op_y (y_pickf rfl rfl) rfl ?_ | refine op_y (y_pick rfl rfl rfl) rfl ?_
     refine op_y (y_move rfl) rfl ?_
     first
      | refine op_s1 rfl rfl ⟨rfl, rfl⟩ ?_
      | refine op_s2 rfl rfl ⟨rfl, rfl⟩ ?_
      | (refine op_g rfl rfl ?_
         refine op_y (y_move rfl) rfl ?_)
     first | refine op_s1 rfl rfl ⟨rfl, rfl⟩ ?_ | refine op_s2 rfl rfl ⟨rfl, rfl⟩ ?_
     first
      | refine op_s1 rfl rfl ⟨rfl, rfl⟩ ?_
      | refine op_s2 rfl rfl ⟨rfl, rfl⟩ ?_
      | (refine op_g rfl rfl ?_
         first | refine op_y (y_eq rfl rfl (eqT (by omega))) rfl ?_ | refine op_y (y_eq rfl rfl (eqF (by omega))) rfl ?_ | refine op_y (y_eq rfl rfl rfl) rfl ?_)
     first | refine op_y (y_pickt rfl rfl) rfl ?_ | refine op_y (y_pickf rfl rfl) rfl ?_ | refine op_y (y_pick rfl rfl rfl) rfl ?_
     refine op_y (y_assign rfl) rfl ?_
     refine op_nil ?_
     refine ent_then ?_
     refine cd_ret ?_
     refine ent_ret1 rfl rfl ⟨_, ⟨by simp [formB, h0, h1, h2, h3], rfl⟩, fun w h => h⟩
   ·skip
    first
     | refine op_s1 rfl rfl ⟨rfl, rfl⟩ ?_
     | refine op_s2 rfl rfl ⟨rfl, rfl⟩ ?_
     | (refine op_g rfl rfl ?_
        first | refine op_y (y_conv Hdr2.un_41 Hdr2.un_3 rfl (wi64 (by omega) (by omega))) rfl ?_ | refine op_y (y_conv Hdr2.un_41 Hdr2.un_3 rfl rfl) rfl ?_)
    first
     | refine op_s1 rfl rfl ⟨rfl, rfl⟩ ?_
     | refine op_s2 rfl rfl ⟨rfl, rfl⟩ ?_
     | (refine op_g rfl rfl ?_
        refine op_y (y_move rfl) rfl ?_)
    first
     | refine op_s1 rfl rfl ⟨rfl, rfl⟩ ?_
     | refine op_s2 rfl rfl ⟨rfl, rfl⟩ ?_
     | (refine op_g rfl rfl ?_
        first | refine op_y (y_slen Hdr2.un_9 rfl) rfl ?_ | refine op_y (y_lens Hdr2.un_9 rfl) rfl ?_)
    first
     | refine op_s1 rfl rfl ⟨rfl, rfl⟩ ?_
     | refine op_s2 rfl rfl ⟨rfl, rfl⟩ ?_
     | (refine op_g rfl rfl ?_
        first | refine op_y (y_eq rfl rfl (eqT (by omega))) rfl ?_ | refine op_y (y_eq rfl rfl (eqF (by omega))) rfl ?_ | refine op_y (y_eq rfl rfl rfl) rfl ?_)
    first | refine op_y (y_pickt rfl rfl) rfl ?_ | refine op_y (y_pickf rfl rfl) rfl ?_ | refine op_y (y_pick rfl rfl rfl) rfl ?_
    refine op_y (y_move rfl) rfl ?_
    first
     | refine op_s1 rfl rfl ⟨rfl, rfl⟩ ?_
     | refine op_s2 rfl rfl ⟨rfl, rfl⟩ ?_
     | (refine op_g rfl rfl ?_
        refine op_y (y_move rfl) rfl ?_)
    first | refine op_s1 rfl rfl ⟨rfl, rfl⟩ ?_ | refine op_s2 rfl rfl ⟨rfl, rfl⟩ ?_
    first
     | refine op_s1 rfl rfl ⟨rfl, rfl⟩ ?_
     | refine op_s2 rfl rfl ⟨rfl, rfl⟩ ?_
     | (refine op_g rfl rfl ?_
        first | refine op_y (y_eq rfl rfl (eqT (by omega))) rfl ?_ | refine op_y (y_eq rfl rfl (eqF (by omega))) rfl ?_ | refine op_y (y_eq rfl rfl rfl) rfl ?_)
    first | refine op_y (y_pickt rfl rfl) rfl ?_ | refine op_y (y_pickf rfl rfl) rfl ?_ | refine op_y (y_pick rfl rfl rfl) rfl ?_
    refine op_y (y_move rfl) rfl ?_
    first
     | refine op_s1 rfl rfl ⟨rfl, rfl⟩ ?_
     | refine op_s2 rfl rfl ⟨rfl, rfl⟩ ?_
     | (refine op_g rfl rfl ?_
        refine op_y (y_move rfl) rfl ?_)
    first
     | refine op_s1 rfl rfl ⟨rfl, rfl⟩ ?_
     | refine op_s2 rfl rfl ⟨rfl, rfl⟩ ?_
     | (refine op_g rfl rfl ?_
        refine op_y (y_sidx (j := 9) Hdr2.un_9 rfl rfl rfl (by first | omega | (simp only [List.length_append, List.length_cons, List.length_nil, List.length_take, List.length_drop]; omega) | (simp; omega) | (simp; done))) rfl ?_)
    first
     | refine op_s1 rfl rfl ⟨rfl, rfl⟩ ?_
     | refine op_s2 rfl rfl ⟨rfl, rfl⟩ ?_
     | (refine op_g rfl rfl ?_
        first | refine op_y (y_eq rfl rfl (eqT (by omega))) rfl ?_ | refine op_y (y_eq rfl rfl (eqF (by omega))) rfl ?_ | refine op_y (y_eq rfl rfl rfl) rfl ?_)
    first | refine op_y (y_pickt rfl rfl) rfl ?_ | refine op_y (y_pickf rfl rfl) rfl ?_ | refine op_y (y_pick rfl rfl rfl) rfl ?_
    refine op_y (y_move rfl) rfl ?_
    first
     | refine op_s1 rfl rfl ⟨rfl, rfl⟩ ?_
     | refine op_s2 rfl rfl ⟨rfl, rfl⟩ ?_
     | (refine op_g rfl rfl ?_
        refine op_y (y_move rfl) rfl ?_)
    first | refine op_s1 rfl rfl ⟨rfl, rfl⟩ ?_ | refine op_s2 rfl rfl ⟨rfl, rfl⟩ ?_
    first
     | refine op_s1 rfl rfl ⟨rfl, rfl⟩ ?_
     | refine op_s2 rfl rfl ⟨rfl, rfl⟩ ?_
     | (refine op_g rfl rfl ?_
        first | refine op_y (y_conv Hdr2.un_41 Hdr2.un_3 rfl (wi64 (by omega) (by omega))) rfl ?_ | refine op_y (y_conv Hdr2.un_41 Hdr2.un_3 rfl rfl) rfl ?_)
    first
     | refine op_s1 rfl rfl ⟨rfl, rfl⟩ ?_
     | refine op_s2 rfl rfl ⟨rfl, rfl⟩ ?_
     | (refine op_g rfl rfl ?_
        refine op_y (y_move rfl) rfl ?_)
    first
     | refine op_s1 rfl rfl ⟨rfl, rfl⟩ ?_
     | refine op_s2 rfl rfl ⟨rfl, rfl⟩ ?_
     | (refine op_g rfl rfl ?_
        first | refine op_y (y_slen Hdr2.un_9 rfl) rfl ?_ | refine op_y (y_lens Hdr2.un_9 rfl) rfl ?_)
    first
     | refine op_s1 rfl rfl ⟨rfl, rfl⟩ ?_
     | refine op_s2 rfl rfl ⟨rfl, rfl⟩ ?_
     | (refine op_g rfl rfl ?_
        first | refine op_y (y_sub rfl rfl (wi64 (by omega) (by omega))) rfl ?_ | refine op_y (y_sub rfl rfl rfl) rfl ?_)
    first
     | refine op_s1 rfl rfl ⟨rfl, rfl⟩ ?_
     | refine op_s2 rfl rfl ⟨rfl, rfl⟩ ?_
     | (refine op_g rfl rfl ?_
        first | refine op_y (y_eq rfl rfl (eqT (by omega))) rfl ?_ | refine op_y (y_eq rfl rfl (eqF (by omega))) rfl ?_ | refine op_y (y_eq rfl rfl rfl) rfl ?_)
    first | refine op_y (y_pickt rfl rfl) rfl ?_ | refine op_y (y_pickf rfl rfl) rfl ?_ | refine op_y (y_pick rfl rfl rfl) rfl ?_
    refine op_y (y_move rfl) rfl ?_
    first
     | refine op_s1 rfl rfl ⟨rfl, rfl⟩ ?_
     | refine op_s2 rfl rfl ⟨rfl, rfl⟩ ?_
     | (refine op_g rfl rfl ?_
        refine op_y (y_move rfl) rfl ?_)
    first | refine op_s1 rfl rfl ⟨rfl, rfl⟩ ?_ | refine op_s2 rfl rfl ⟨rfl, rfl⟩ ?_
    first
     | refine op_s1 rfl rfl ⟨rfl, rfl⟩ ?_
     | refine op_s2 rfl rfl ⟨rfl, rfl⟩ ?_
     | (refine op_g rfl rfl ?_
        first | refine op_y (y_eq rfl rfl (eqT (by omega))) rfl ?_ | refine op_y (y_eq rfl rfl (eqF (by omega))) rfl ?_ | refine op_y (y_eq rfl rfl rfl) rfl ?_)
    first | refine op_y (y_pickt rfl rfl) rfl ?_ | refine op_y (y_pickf rfl rfl) rfl ?_ | refine op_y (y_pick rfl rfl rfl) rfl ?_
    refine op_y (y_assign rfl) rfl ?_
    refine op_nil ?_
    refine ent_then ?_
    refine cd_ret ?_
    refine ent_ret1 rfl rfl ⟨_, ⟨by simp [formB, h0, h1, h2], rfl⟩, fun w h => h⟩
  ·skip
   refine cd_seq ?_
   refine cd_region [0] ?_
   refine op_y (y_assign rfl) rfl ?_
   refine op_nil ?_
   refine ent_then ?_
   refine cd_seq ?_
   refine cd_region [0, 0, 0, 0, 0, 0, 0, 0, 0, 0, 0, 2, 0, 0, 0, 0, 0, 0, 0, 2, 0, 0, 0, 0, 0, 0, 0, 0, 0, 2, 0, 0, 0, 0, 0, 0, 0, 0, 2, 0, 0, 0] ?_
   refine op_y (y_move rfl) rfl ?_
   refine op_y (y_sidx (j := 0) Hdr2.un_9 rfl rfl rfl (by first | omega | (simp only [List.length_append, List.length_cons, List.length_nil, List.length_take, List.length_drop]; omega) | (simp; omega) | (simp; done))) rfl ?_
   first | refine op_y (y_eq rfl rfl (eqT (by omega))) rfl ?_ | refine op_y (y_eq rfl rfl (eqF (by omega))) rfl ?_ | refine op_y (y_eq rfl rfl rfl) rfl ?_
   refine op_y (y_move rfl) rfl ?_
   first
    | refine op_s1 rfl rfl ⟨rfl, rfl⟩ ?_
    | refine op_s2 rfl rfl ⟨rfl, rfl⟩ ?_
    | (refine op_g rfl rfl ?_
       refine op_y (y_move rfl) rfl ?_)
   first
    | refine op_s1 rfl rfl ⟨rfl, rfl⟩ ?_
    | refine op_s2 rfl rfl ⟨rfl, rfl⟩ ?_
    | (refine op_g rfl rfl ?_
       refine op_y (y_sidx (j := 1) Hdr2.un_9 rfl rfl rfl (by first | omega | (simp only [List.length_append, List.length_cons, List.length_nil, List.length_take, List.length_drop]; omega) | (simp; omega) | (simp; done))) rfl ?_)
   first
    | refine op_s1 rfl rfl ⟨rfl, rfl⟩ ?_
    | refine op_s2 rfl rfl ⟨rfl, rfl⟩ ?_
    | (refine op_g rfl rfl ?_
       first | refine op_y (y_remn rfl rfl (by omega) (by omega)) rfl ?_ | refine op_y (y_rem rfl rfl (by omega) rfl) rfl ?_)
   first
    | refine op_s1 rfl rfl ⟨rfl, rfl⟩ ?_
    | refine op_s2 rfl rfl ⟨rfl, rfl⟩ ?_
    | (refine op_g rfl rfl ?_
       first | refine op_y (y_eq rfl rfl (eqT (by omega))) rfl ?_ | refine op_y (y_eq rfl rfl (eqF (by omega))) rfl ?_ | refine op_y (y_eq rfl rfl rfl) rfl ?_)
   first | refine op_y (y_pickt rfl rfl) rfl ?_ | refine op_y (y_pickf rfl rfl) rfl ?_ | refine op_y (y_pick rfl rfl rfl) rfl ?_
   refine op_y (y_move rfl) rfl ?_
   first
    | refine op_s1 rfl rfl ⟨rfl, rfl⟩ ?_
    | refine op_s2 rfl rfl ⟨rfl, rfl⟩ ?_
    | (refine op_g rfl rfl ?_
       refine op_y (y_move rfl) rfl ?_)
   first | refine op_s1 rfl rfl ⟨rfl, rfl⟩ ?_ | refine op_s2 rfl rfl ⟨rfl, rfl⟩ ?_
   first
    | refine op_s1 rfl rfl ⟨rfl, rfl⟩ ?_
    | refine op_s2 rfl rfl ⟨rfl, rfl⟩ ?_
    | (refine op_g rfl rfl ?_
       first | refine op_y (y_conv Hdr2.un_41 Hdr2.un_3 rfl (wi64 (by omega) (by omega))) rfl ?_ | refine op_y (y_conv Hdr2.un_41 Hdr2.un_3 rfl rfl) rfl ?_)
   first
    | refine op_s1 rfl rfl ⟨rfl, rfl⟩ ?_
    | refine op_s2 rfl rfl ⟨rfl, rfl⟩ ?_
    | (refine op_g rfl rfl ?_
       refine op_y (y_move rfl) rfl ?_)
   first
    | refine op_s1 rfl rfl ⟨rfl, rfl⟩ ?_
    | refine op_s2 rfl rfl ⟨rfl, rfl⟩ ?_
    | (refine op_g rfl rfl ?_
       first | refine op_y (y_slen Hdr2.un_9 rfl) rfl ?_ | refine op_y (y_lens Hdr2.un_9 rfl) rfl ?_)
   first
    | refine op_s1 rfl rfl ⟨rfl, rfl⟩ ?_
    | refine op_s2 rfl rfl ⟨rfl, rfl⟩ ?_
    | (refine op_g rfl rfl ?_
       first | refine op_y (y_eq rfl rfl (eqT (by omega))) rfl ?_ | refine op_y (y_eq rfl rfl (eqF (by omega))) rfl ?_ | refine op_y (y_eq rfl rfl rfl) rfl ?_)
   first | refine op_y (y_pickt rfl rfl) rfl ?_ | refine op_y (y_pickf rfl rfl) rfl ?_ | refine op_y (y_pick rfl rfl rfl) rfl ?_
   refine op_y (y_move rfl) rfl ?_
   first
    | refine op_s1 rfl rfl ⟨rfl, rfl⟩ ?_
    | refine op_s2 rfl rfl ⟨rfl, rfl⟩ ?_
    | (refine op_g rfl rfl ?_
       refine op_y (y_move rfl) rfl ?_)
   first | refine op_s1 rfl rfl ⟨rfl, rfl⟩ ?_ | refine op_s2 rfl rfl ⟨rfl, rfl⟩ ?_
   first
    | refine op_s1 rfl rfl ⟨rfl, rfl⟩ ?_
    | refine op_s2 rfl rfl ⟨rfl, rfl⟩ ?_
    | (refine op_g rfl rfl ?_
       first | refine op_y (y_eq rfl rfl (eqT (by omega))) rfl ?_ | refine op_y (y_eq rfl rfl (eqF (by omega))) rfl ?_ | refine op_y (y_eq rfl rfl rfl) rfl ?_)
   first | refine op_y (y_pickt rfl rfl) rfl ?_ | refine op_y (y_pickf rfl rfl) rfl ?_ | refine op_y (y_pick rfl rfl rfl) rfl ?_
   refine op_y (y_move rfl) rfl ?_
   first
    | refine op_s1 rfl rfl ⟨rfl, rfl⟩ ?_
    | refine op_s2 rfl rfl ⟨rfl, rfl⟩ ?_
    | (refine op_g rfl rfl ?_
       refine op_y (y_move rfl) rfl ?_)
   first
    | refine op_s1 rfl rfl ⟨rfl, rfl⟩ ?_
    | refine op_s2 rfl rfl ⟨rfl, rfl⟩ ?_
    | (refine op_g rfl rfl ?_
       refine op_y (y_sidx (j := 9) Hdr2.un_9 rfl rfl rfl (by first | omega | (simp only [List.length_append, List.length_cons, List.length_nil, List.length_take, List.length_drop]; omega) | (simp; omega) | (simp; done))) rfl ?_)
   first
    | refine op_s1 rfl rfl ⟨rfl, rfl⟩ ?_
    | refine op_s2 rfl rfl ⟨rfl, rfl⟩ ?_
    | (refine op_g rfl rfl ?_
       first | refine op_y (y_eq rfl rfl (eqT (by omega))) rfl ?_ | refine op_y (y_eq rfl rfl (eqF (by omega))) rfl ?_ | refine op_y (y_eq rfl rfl rfl) rfl ?_)
   first | refine op_y (y_pickt rfl rfl) rfl ?_ | refine op_y (y_pickf rfl rfl) rfl ?_ | refine op_y (y_pick rfl rfl rfl) rfl ?_
   refine op_y (y_move rfl) rfl ?_
   first
    | refine op_s1 rfl rfl ⟨rfl, rfl⟩ ?_
    | refine op_s2 rfl rfl ⟨rfl, rfl⟩ ?_
    | (refine op_g rfl rfl ?_
       refine op_y (y_move rfl) rfl ?_)
   first | refine op_s1 rfl rfl ⟨rfl, rfl⟩ ?_ | refine op_s2 rfl rfl ⟨rfl, rfl⟩ ?_
   first
    | refine op_s1 rfl rfl ⟨rfl, rfl⟩ ?_
    | refine op_s2 rfl rfl ⟨rfl, rfl⟩ ?_
    | (refine op_g rfl rfl ?_
       first | refine op_y (y_conv Hdr2.un_41 Hdr2.un_3 rfl (wi64 (by omega) (by omega))) rfl ?_ | refine op_y (y_conv Hdr2.un_41 Hdr2.un_3 rfl rfl) rfl ?_)
   first
    | refine op_s1 rfl rfl ⟨rfl, rfl⟩ ?_
    | refine op_s2 rfl rfl ⟨rfl, rfl⟩ ?_
    | (refine op_g rfl rfl ?_
       refine op_y (y_move rfl) rfl ?_)
   first
    | refine op_s1 rfl rfl ⟨rfl, rfl⟩ ?_
    | refine op_s2 rfl rfl ⟨rfl, rfl⟩ ?_
    | (refine op_g rfl rfl ?_
       first | refine op_y (y_slen Hdr2.un_9 rfl) rfl ?_ | refine op_y (y_lens Hdr2.un_9 rfl) rfl ?_)
   first
    | refine op_s1 rfl rfl ⟨rfl, rfl⟩ ?_
    | refine op_s2 rfl rfl ⟨rfl, rfl⟩ ?_
    | (refine op_g rfl rfl ?_
       first | refine op_y (y_sub rfl rfl (wi64 (by omega) (by omega))) rfl ?_ | refine op_y (y_sub rfl rfl rfl) rfl ?_)
   first
    | refine op_s1 rfl rfl ⟨rfl, rfl⟩ ?_
    | refine op_s2 rfl rfl ⟨rfl, rfl⟩ ?_
    | (refine op_g rfl rfl ?_
       first | refine op_y (y_eq rfl rfl (eqT (by omega))) rfl ?_ | refine op_y (y_eq rfl rfl (eqF (by omega))) rfl ?_ | refine op_y (y_eq rfl rfl rfl) rfl ?_)
   first | refine op_y (y_pickt rfl rfl) rfl ?_ | refine op_y (y_pickf rfl rfl) rfl ?_ | refine op_y (y_pick rfl rfl rfl) rfl ?_
   refine op_y (y_move rfl) rfl ?_
   first
    | refine op_s1 rfl rfl ⟨rfl, rfl⟩ ?_
    | refine op_s2 rfl rfl ⟨rfl, rfl⟩ ?_
    | (refine op_g rfl rfl ?_
       refine op_y (y_move rfl) rfl ?_)
   first | refine op_s1 rfl rfl ⟨rfl, rfl⟩ ?_ | refine op_s2 rfl rfl ⟨rfl, rfl⟩ ?_
   first
    | refine op_s1 rfl rfl ⟨rfl, rfl⟩ ?_
    | refine op_s2 rfl rfl ⟨rfl, rfl⟩ ?_
    | (refine op_g rfl rfl ?_
       first | refine op_y (y_eq rfl rfl (eqT (by omega))) rfl ?_ | refine op_y (y_eq rfl rfl (eqF (by omega))) rfl ?_ | refine op_y (y_eq rfl rfl rfl) rfl ?_)
   first | refine op_y (y_pickt rfl rfl) rfl ?_ | refine op_y (y_pickf rfl rfl) rfl ?_ | refine op_y (y_pick rfl rfl rfl) rfl ?_
   refine op_y (y_assign rfl) rfl ?_
   refine op_nil ?_
   refine ent_then ?_
   refine cd_ret ?_
   refine ent_ret1 rfl rfl ⟨_, ⟨by simp [formB, h0, h1], rfl⟩, fun w h => h⟩
 ·skip
  refine cd_seq ?_
  refine cd_region [0] ?_
  refine op_y (y_assign rfl) rfl ?_
  refine op_nil ?_
  refine ent_then ?_
  refine cd_seq ?_
  refine cd_region [0, 0, 0, 0, 0, 0, 0, 0, 0, 0, 0, 2, 0, 0, 0, 0, 0, 0, 0, 2, 0, 0, 0, 0, 0, 0, 0, 0, 0, 2, 0, 0, 0, 0, 0, 0, 0, 0, 2, 0, 0, 0] ?_
  refine op_y (y_move rfl) rfl ?_
  refine op_y (y_sidx (j := 0) Hdr2.un_9 rfl rfl rfl (by first | omega | (simp only [List.length_append, List.length_cons, List.length_nil, List.length_take, List.length_drop]; omega) | (simp; omega) | (simp; done))) rfl ?_
  first | refine op_y (y_eq rfl rfl (eqT (by omega))) rfl ?_ | refine op_y (y_eq rfl rfl (eqF (by omega))) rfl ?_ | refine op_y (y_eq rfl rfl rfl) rfl ?_
  refine op_y (y_move rfl) rfl ?_
  first
   | refine op_s1 rfl rfl ⟨rfl, rfl⟩ ?_
   | refine op_s2 rfl rfl ⟨rfl, rfl⟩ ?_
   | (refine op_g rfl rfl ?_
      refine op_y (y_move rfl) rfl ?_)
  first
   | refine op_s1 rfl rfl ⟨rfl, rfl⟩ ?_
   | refine op_s2 rfl rfl ⟨rfl, rfl⟩ ?_
   | (refine op_g rfl rfl ?_
      refine op_y (y_sidx (j := 1) Hdr2.un_9 rfl rfl rfl (by first | omega | (simp only [List.length_append, List.length_cons, List.length_nil, List.length_take, List.length_drop]; omega) | (simp; omega) | (simp; done))) rfl ?_)
  first
   | refine op_s1 rfl rfl ⟨rfl, rfl⟩ ?_
   | refine op_s2 rfl rfl ⟨rfl, rfl⟩ ?_
   | (refine op_g rfl rfl ?_
      first | refine op_y (y_remn rfl rfl (by omega) (by omega)) rfl ?_ | refine op_y (y_rem rfl rfl (by omega) rfl) rfl ?_)
  first
   | refine op_s1 rfl rfl ⟨rfl, rfl⟩ ?_
   | refine op_s2 rfl rfl ⟨rfl, rfl⟩ ?_
   | (refine op_g rfl rfl ?_
      first | refine op_y (y_eq rfl rfl (eqT (by omega))) rfl ?_ | refine op_y (y_eq rfl rfl (eqF (by omega))) rfl ?_ | refine op_y (y_eq rfl rfl rfl) rfl ?_)
  first | refine op_y (y_pickt rfl rfl) rfl ?_ | refine op_y (y_pickf rfl rfl) rfl ?_ | refine op_y (y_pick rfl rfl rfl) rfl ?_
  refine op_y (y_move rfl) rfl ?_
  first
   | refine op_s1 rfl rfl ⟨rfl, rfl⟩ ?_
   | refine op_s2 rfl rfl ⟨rfl, rfl⟩ ?_
   | (refine op_g rfl rfl ?_
      refine op_y (y_move rfl) rfl ?_)
  first | refine op_s1 rfl rfl ⟨rfl, rfl⟩ ?_ | refine op_s2 rfl rfl ⟨rfl, rfl⟩ ?_
  first
   | refine op_s1 rfl rfl ⟨rfl, rfl⟩ ?_
   | refine op_s2 rfl rfl ⟨rfl, rfl⟩ ?_
   | (refine op_g rfl rfl ?_
      first | refine op_y (y_conv Hdr2.un_41 Hdr2.un_3 rfl (wi64 (by omega) (by omega))) rfl ?_ | refine op_y (y_conv Hdr2.un_41 Hdr2.un_3 rfl rfl) rfl ?_)
  first
   | refine op_s1 rfl rfl ⟨rfl, rfl⟩ ?_
   | refine op_s2 rfl rfl ⟨rfl, rfl⟩ ?_
   | (refine op_g rfl rfl ?_
      refine op_y (y_move rfl) rfl ?_)
  first
   | refine op_s1 rfl rfl ⟨rfl, rfl⟩ ?_
   | refine op_s2 rfl rfl ⟨rfl, rfl⟩ ?_
   | (refine op_g rfl rfl ?_
      first | refine op_y (y_slen Hdr2.un_9 rfl) rfl ?_ | refine op_y (y_lens Hdr2.un_9 rfl) rfl ?_)
  first
   | refine op_s1 rfl rfl ⟨rfl, rfl⟩ ?_
   | refine op_s2 rfl rfl ⟨rfl, rfl⟩ ?_
   | (refine op_g rfl rfl ?_
      first | refine op_y (y_eq rfl rfl (eqT (by omega))) rfl ?_ | refine op_y (y_eq rfl rfl (eqF (by omega))) rfl ?_ | refine op_y (y_eq rfl rfl rfl) rfl ?_)
  first | refine op_y (y_pickt rfl rfl) rfl ?_ | refine op_y (y_pickf rfl rfl) rfl ?_ | refine op_y (y_pick rfl rfl rfl) rfl ?_
  refine op_y (y_move rfl) rfl ?_
  first
   | refine op_s1 rfl rfl ⟨rfl, rfl⟩ ?_
   | refine op_s2 rfl rfl ⟨rfl, rfl⟩ ?_
   | (refine op_g rfl rfl ?_
      refine op_y (y_move rfl) rfl ?_)
  first | refine op_s1 rfl rfl ⟨rfl, rfl⟩ ?_ | refine op_s2 rfl rfl ⟨rfl, rfl⟩ ?_
  first
   | refine op_s1 rfl rfl ⟨rfl, rfl⟩ ?_
   | refine op_s2 rfl rfl ⟨rfl, rfl⟩ ?_
   | (refine op_g rfl rfl ?_
      first | refine op_y (y_eq rfl rfl (eqT (by omega))) rfl ?_ | refine op_y (y_eq rfl rfl (eqF (by omega))) rfl ?_ | refine op_y (y_eq rfl rfl rfl) rfl ?_)
  first | refine op_y (y_pickt rfl rfl) rfl ?_ | refine op_y (y_pickf rfl rfl) rfl ?_ | refine op_y (y_pick rfl rfl rfl) rfl ?_
  refine op_y (y_move rfl) rfl ?_
  first
   | refine op_s1 rfl rfl ⟨rfl, rfl⟩ ?_
   | refine op_s2 rfl rfl ⟨rfl, rfl⟩ ?_
   | (refine op_g rfl rfl ?_
      refine op_y (y_move rfl) rfl ?_)
  first
   | refine op_s1 rfl rfl ⟨rfl, rfl⟩ ?_
   | refine op_s2 rfl rfl ⟨rfl, rfl⟩ ?_
   | (refine op_g rfl rfl ?_
      refine op_y (y_sidx (j := 9) Hdr2.un_9 rfl rfl rfl (by first | omega | (simp only [List.length_append, List.length_cons, List.length_nil, List.length_take, List.length_drop]; omega) | (simp; omega) | (simp; done))) rfl ?_)
  first
   | refine op_s1 rfl rfl ⟨rfl, rfl⟩ ?_
   | refine op_s2 rfl rfl ⟨rfl, rfl⟩ ?_
   | (refine op_g rfl rfl ?_
      first | refine op_y (y_eq rfl rfl (eqT (by omega))) rfl ?_ | refine op_y (y_eq rfl rfl (eqF (by omega))) rfl ?_ | refine op_y (y_eq rfl rfl rfl) rfl ?_)
  first | refine op_y (y_pickt rfl rfl) rfl ?_ | refine op_y (y_pickf rfl rfl) rfl ?_ | refine op_y (y_pick rfl rfl rfl) rfl ?_
  refine op_y (y_move rfl) rfl ?_
  first
   | refine op_s1 rfl rfl ⟨rfl, rfl⟩ ?_
   | refine op_s2 rfl rfl ⟨rfl, rfl⟩ ?_
   | (refine op_g rfl rfl ?_
      refine op_y (y_move rfl) rfl ?_)
  first | refine op_s1 rfl rfl ⟨rfl, rfl⟩ ?_ | refine op_s2 rfl rfl ⟨rfl, rfl⟩ ?_
  first
   | refine op_s1 rfl rfl ⟨rfl, rfl⟩ ?_
   | refine op_s2 rfl rfl ⟨rfl, rfl⟩ ?_
   | (refine op_g rfl rfl ?_
      first | refine op_y (y_conv Hdr2.un_41 Hdr2.un_3 rfl (wi64 (by omega) (by omega))) rfl ?_ | refine op_y (y_conv Hdr2.un_41 Hdr2.un_3 rfl rfl) rfl ?_)
  first
   | refine op_s1 rfl rfl ⟨rfl, rfl⟩ ?_
   | refine op_s2 rfl rfl ⟨rfl, rfl⟩ ?_
   | (refine op_g rfl rfl ?_
      refine op_y (y_move rfl) rfl ?_)
  first
   | refine op_s1 rfl rfl ⟨rfl, rfl⟩ ?_
   | refine op_s2 rfl rfl ⟨rfl, rfl⟩ ?_
   | (refine op_g rfl rfl ?_
      first | refine op_y (y_slen Hdr2.un_9 rfl) rfl ?_ | refine op_y (y_lens Hdr2.un_9 rfl) rfl ?_)
  first
   | refine op_s1 rfl rfl ⟨rfl, rfl⟩ ?_
   | refine op_s2 rfl rfl ⟨rfl, rfl⟩ ?_
   | (refine op_g rfl rfl ?_
      first | refine op_y (y_sub rfl rfl (wi64 (by omega) (by omega))) rfl ?_ | refine op_y (y_sub rfl rfl rfl) rfl ?_)
  first
   | refine op_s1 rfl rfl ⟨rfl, rfl⟩ ?_
   | refine op_s2 rfl rfl ⟨rfl, rfl⟩ ?_
   | (refine op_g rfl rfl ?_
      first | refine op_y (y_eq rfl rfl (eqT (by omega))) rfl ?_ | refine op_y (y_eq rfl rfl (eqF (by omega))) rfl ?_ | refine op_y (y_eq rfl rfl rfl) rfl ?_)
  first | refine op_y (y_pickt rfl rfl) rfl ?_ | refine op_y (y_pickf rfl rfl) rfl ?_ | refine op_y (y_pick rfl rfl rfl) rfl ?_
  refine op_y (y_move rfl) rfl ?_
  first
   | refine op_s1 rfl rfl ⟨rfl, rfl⟩ ?_
   | refine op_s2 rfl rfl ⟨rfl, rfl⟩ ?_
   | (refine op_g rfl rfl ?_
      refine op_y (y_move rfl) rfl ?_)
  first | refine op_s1 rfl rfl ⟨rfl, rfl⟩ ?_ | refine op_s2 rfl rfl ⟨rfl, rfl⟩ ?_
  first
   | refine op_s1 rfl rfl ⟨rfl, rfl⟩ ?_
   | refine op_s2 rfl rfl ⟨rfl, rfl⟩ ?_
   | (refine op_g rfl rfl ?_
      first | refine op_y (y_eq rfl rfl (eqT (by omega))) rfl ?_ | refine op_y (y_eq rfl rfl (eqF (by omega))) rfl ?_ | refine op_y (y_eq rfl rfl rfl) rfl ?_)
  first | refine op_y (y_pickt rfl rfl) rfl ?_ | refine op_y (y_pickf rfl rfl) rfl ?_ | refine op_y (y_pick rfl rfl rfl) rfl ?_
  refine op_y (y_assign rfl) rfl ?_
  refine op_nil ?_
  refine ent_then ?_
  refine cd_ret ?_
  refine ent_ret1 rfl rfl ⟨_, ⟨by simp [formB, h0], rfl⟩, fun w h => h⟩
end Go.Proofs.YtfkadaodnaaceaaGreatDoor
/- Datagrams: taken, hopped, put together. -/
namespace Go.Proofs.YtfkadaodnaaceaaGreatDoor
open Go Go.SL
theorem Hdr3.ag_44 : aggK Tryz.prog 44 = some 7 := by kernel_rfl
theorem Hdr3.ca_46 : callable Tryz.prog 46 = true := by kernel_rfl
theorem Hdr3.ca_82 : callable Tryz.prog 82 = true := by kernel_rfl
theorem Hdr3.ca_83 : callable Tryz.prog 83 = true := by kernel_rfl
theorem Hdr3.ca_84 : callable Tryz.prog 84 = true := by kernel_rfl
theorem Hdr3.ca_85 : callable Tryz.prog 85 = true := by kernel_rfl
theorem Hdr3.ca_86 : callable Tryz.prog 86 = true := by kernel_rfl
theorem Hdr3.ca_87 : callable Tryz.prog 87 = true := by kernel_rfl
theorem Hdr3.ca_88 : callable Tryz.prog 88 = true := by kernel_rfl
theorem Hdr3.ca_144 : callable Tryz.prog 144 = true := by kernel_rfl
theorem Hdr3.fo_44_0 : fieldOff Tryz.prog 44 0 = some 0 := by kernel_rfl
theorem Hdr3.fo_44_1 : fieldOff Tryz.prog 44 1 = some 1 := by kernel_rfl
theorem Hdr3.fo_44_2 : fieldOff Tryz.prog 44 2 = some 2 := by kernel_rfl
theorem Hdr3.fo_44_3 : fieldOff Tryz.prog 44 3 = some 3 := by kernel_rfl
theorem Hdr3.fo_44_4 : fieldOff Tryz.prog 44 4 = some 4 := by kernel_rfl
theorem Hdr3.fo_44_5 : fieldOff Tryz.prog 44 5 = some 5 := by kernel_rfl
theorem Hdr3.fo_44_6 : fieldOff Tryz.prog 44 6 = some 6 := by kernel_rfl
theorem Hdr3.pl_44 : placesK Tryz.prog 44 = some [(0, 1), (1, 1), (2, 1), (3, 1), (4, 1), (5, 1), (6, 1)] := by kernel_rfl
theorem Hdr3.sc_5 : scalarT Tryz.prog 5 = true := by kernel_rfl
theorem Hdr3.sc_41 : scalarT Tryz.prog 41 = true := by kernel_rfl
theorem Hdr3.sc_42 : scalarT Tryz.prog 42 = true := by kernel_rfl
theorem Hdr3.sl_281 : sliceK Tryz.prog 281 = some (41, 1, 2) := by kernel_rfl
theorem Hdr3.sz_44 : sizeK Tryz.prog 44 = some 7 := by kernel_rfl
theorem Hdr3.un_3 : Tryz.prog.underlying 3 = some (.int .i64) := by kernel_rfl
theorem Hdr3.un_5 : Tryz.prog.underlying 5 = some (.int .u8) := by kernel_rfl
theorem Hdr3.un_9 : Tryz.prog.underlying 9 = some (.string) := by kernel_rfl
theorem Hdr3.un_41 : Tryz.prog.underlying 41 = some (.int .u16) := by kernel_rfl
theorem Hdr3.un_42 : Tryz.prog.underlying 42 = some (.int .u32) := by kernel_rfl
theorem Hdr3.ze_41 : zeroC Tryz.prog 41 = some [.int .u16 0] := by kernel_rfl
theorem Hdr3.ze_44 : zeroC Tryz.prog 44 = some [.int .u8 0, .int .u16 0, .int .u8 0, .int .u32 0, .int .u32 0, .int .u16 0, .int .u16 0] := by kernel_rfl
set_option maxRecDepth 100000
set_option maxHeartbeats 1000000
theorem with_ct (c : Cx) (l : List UInt8) (a n : Nat) (ha : a + 2 ≤ l.length) (h12 : 12 ≤ l.length) (hl : l.length ≤ 70000) (hn : n < 65536) : Ct Tryz.prog 82 #[sv l, .int .i64 a, .int .u16 n] c [] fun v L => v = sv (withF l a n) ∧ L = [] := by
 refine ct_fn (args := [sv l, .int .i64 a, .int .u16 n]) [(0, sv l), (1, .int .i64 a), (2, .int .u16 n)] Tryz.func82 rfl Tryz.ntmps82 rfl ⟨rfl, rfl, rfl, trivial⟩ ?_
 have hh1 := hvs1 n
 have hh2 := hvs1 (updF (hf l 10) (hf l a) n)
 have h0 := hf_lt l 10
 have h1 := hf_lt l a
 have h2 := updF_lt (hf l 10) (hf l a) n
 refine cd_seq ?_
 refine cd_region [0] ?_
 refine op_y (y_assign rfl) rfl ?_
 refine op_nil ?_
 refine ent_then ?_
 refine cd_seq ?_
 refine cd_region [0, 2, 0, 0, 2, 0, 2, 0] ?_
 refine op_y (y_move rfl) rfl ?_
 apply op_c Hdr3.ca_83 rfl rfl (fun e he_ => half_ct e l 10 (by omega) hl)
 ·exact sx
 rintro _ _ ⟨rfl, rfl⟩ G_ hG_
 simp only [zn] at hG_; subst hG_
 refine op_y (y_move rfl) rfl ?_
 refine op_y (y_move rfl) rfl ?_
 apply op_c Hdr3.ca_83 rfl rfl (fun e he_ => half_ct e l a (by omega) hl)
 ·exact sx
 rintro _ _ ⟨rfl, rfl⟩ G_ hG_
 simp only [zn] at hG_; subst hG_
 refine op_y (y_move rfl) rfl ?_
 apply op_c Hdr3.ca_144 rfl rfl (fun e he_ => upd_ct e (hf l 10) (hf l a) n h0 h1 hn)
 ·exact sx
 rintro _ _ ⟨rfl, rfl⟩ G_ hG_
 simp only [zn] at hG_; subst hG_
 refine op_y (y_assign rfl) rfl ?_
 refine op_nil ?_
 refine ent_then ?_
 refine cd_seq ?_
 refine cd_draw ([]) [0, 1, 2, 3, 7, 8, 9, 10, 4, 5, 6, 11, 12] [0, 0, 0, 0, 0, 0, 0, 0, 2, 2, 0, 0, 0] mixed_ (by kernel_rfl) ?_
 refine op_y (y_move rfl) rfl ?_
 refine op_y (y_move rfl) rfl ?_
 refine op_y (y_sshi Hdr3.un_9 rfl rfl rfl (by first | omega | (simp only [List.length_append, List.length_cons, List.length_nil, List.length_take, List.length_drop]; omega) | (simp; omega) | (simp; done))) rfl ?_
 refine op_y (y_move rfl) rfl ?_
 refine op_y (y_move rfl) rfl ?_
 refine op_y (y_move rfl) rfl ?_
 first | refine op_y (y_add rfl rfl (wi64 (by omega) (by omega))) rfl ?_ | refine op_y (y_add rfl rfl rfl) rfl ?_
 refine op_y (y_sslo Hdr3.un_9 rfl rfl rfl (by first | omega | (simp only [List.length_append, List.length_cons, List.length_nil, List.length_take, List.length_drop]; omega) | (simp; omega) | (simp; done))) rfl ?_
 apply op_bslice Hdr3.sl_281 Hdr3.ze_41 rfl rfl rfl rfl rfl
 ·(first | ((try simp [fillL, splice, Value.cells, Nat.zero, Hdr.cs]) <;> rfl) | rfl)
 intro b19
 apply op_c Hdr3.ca_84 rfl rfl (fun e he_ => halves_ct e _ [n] [.int .u16 n] rfl (by simpa using hn) (by simp) 1 rfl)
 ·exact sx
 rintro _ _ ⟨rfl, rfl⟩ G_ hG_
 simp only [zn] at hG_; subst hG_
 refine op_y (y_cat rfl rfl (by first | omega | (simp only [List.length_append, List.length_cons, List.length_nil, List.length_take, List.length_drop]; omega) | (simp; omega) | (simp; done))) rfl ?_
 refine op_y (y_cat rfl rfl (by first | omega | (simp only [List.length_append, List.length_cons, List.length_nil, List.length_take, List.length_drop]; omega) | (simp; omega) | (simp; done))) rfl ?_
 refine op_y (y_assign rfl) rfl ?_
 refine op_nil ?_
 refine ent_then ?_
 refine cd_seq ?_
 refine cd_draw ([]) [0, 1, 2, 6, 7, 3, 4, 5, 8, 9] [0, 0, 0, 0, 0, 2, 2, 0, 0, 0] mixed_ (by kernel_rfl) ?_
 refine op_y (y_move rfl) rfl ?_
 refine op_y (y_sshi (j := 10) Hdr3.un_9 rfl rfl rfl (by first | omega | (simp only [List.length_append, List.length_cons, List.length_nil, List.length_take, List.length_drop]; omega) | (simp; omega) | (simp; done))) rfl ?_
 refine op_y (y_move rfl) rfl ?_
 refine op_y (y_move rfl) rfl ?_
 refine op_y (y_sslo (j := 12) Hdr3.un_9 rfl rfl rfl (by first | omega | (simp only [List.length_append, List.length_cons, List.length_nil, List.length_take, List.length_drop]; omega) | (simp; omega) | (simp; done))) rfl ?_
 apply op_bslice Hdr3.sl_281 Hdr3.ze_41 rfl rfl rfl rfl rfl
 ·(first | ((try simp [fillL, splice, Value.cells, Nat.zero, Hdr.cs]) <;> rfl) | rfl)
 intro b30
 apply op_c Hdr3.ca_84 rfl rfl (fun e he_ => halves_ct e _ [updF (hf l 10) (hf l a) n] [.int .u16 (updF (hf l 10) (hf l a) n : Nat)] rfl (by simpa using h2) (by simp) 1 rfl)
 ·exact sx
 rintro _ _ ⟨rfl, rfl⟩ G_ hG_
 simp only [zn] at hG_; subst hG_
 refine op_y (y_cat rfl rfl (by first | omega | (simp only [List.length_append, List.length_cons, List.length_nil, List.length_take, List.length_drop]; omega) | (simp; omega) | (simp; done))) rfl ?_
 refine op_y (y_cat rfl rfl (by first | omega | (simp only [List.length_append, List.length_cons, List.length_nil, List.length_take, List.length_drop]; omega) | (simp; omega) | (simp; done))) rfl ?_
 refine op_y (y_assign rfl) rfl ?_
 refine op_nil ?_
 refine ent_then ?_
 refine cd_ret ?_
 refine ent_ret1 rfl rfl ⟨_, ⟨rfl, rfl⟩, fun w h => h⟩
theorem take_ct (c : Cx) (l : List UInt8) : l.length ≤ 70000 → Ct Tryz.prog 46 #[sv l] c [] fun v L => v = .tuple #[.agg (Hdr.cs (takeH l)).toArray, sv (takeS l), .int .i64 (takeE l : Nat)] ∧ L = [] := by
 intro hl
 refine ct_fn (args := [sv l]) [(0, sv l)] Tryz.func46 rfl Tryz.ntmps46 rfl ⟨rfl, trivial⟩ ?_
 by_cases h28 : l.length < 28
 ·skip
  have hE : takeE l = 2 := by simp [takeE, h28]
  have e1 : takeH l = ⟨0, 0, 0, 0, 0, 0, 0⟩ := by simp [takeH, hE]
  have e2 : takeS l = [] := by simp [takeS, hE]
  rw [hE, e1, e2]
  refine cd_seq ?_
  refine cd_region [2, 0, 0] ?_
  refine op_alloc Hdr3.ze_44 rfl fun b2 => ?_
  refine op_y (y_assign rfl) rfl ?_
  refine op_y (y_assign rfl) rfl ?_
  refine op_nil ?_
  refine ent_then ?_
  refine cd_seq ?_
  refine cd_block ?_
  refine cd_seq ?_
  refine cd_region [0, 0, 0, 0] ?_
  refine op_y (y_move rfl) rfl ?_
  first | refine op_y (y_slen Hdr3.un_9 rfl) rfl ?_ | refine op_y (y_lens Hdr3.un_9 rfl) rfl ?_
  first | refine op_y (y_lt rfl rfl (decide_eq_true (by omega))) rfl ?_ | refine op_y (y_lt rfl rfl (decide_eq_false (by omega))) rfl ?_ | refine op_y (y_lt rfl rfl rfl) rfl ?_
  refine op_y (y_assign rfl) rfl ?_
  refine op_nil ?_
  refine ent_then ?_
  refine cd_ift rfl ?_
  refine cd_seq ?_
  refine cd_region [0, 2, 0, 0] ?_
  apply op_build Hdr3.pl_44 Hdr3.ze_44 rfl rfl
  ·(first | ((try simp [fillL, splice, Value.cells, Nat.zero, Hdr.cs]) <;> rfl) | rfl)
  apply op_sta Hdr3.sz_44 rfl rfl rfl rfl
  ·exact rm
  ·simp
  ·(first | ((try simp only [zz, splice, Nat.reduceAdd, Nat.zero_mul, Nat.zero, Hdr.cs]) <;> rfl) | rfl)
  refine op_y (y_assign rfl) rfl ?_
  refine op_y (y_assign rfl) rfl ?_
  refine op_nil ?_
  refine ent_then ?_
  refine cd_ret ?_
  refine ent_block_ret ?_
  refine ent_thn_ret ?_
  refine ent_rets (rs := [_, _, _]) (vs := [.agg [.int .u8 0, .int .u16 0, .int .u8 0, .int .u32 0, .int .u32 0, .int .u16 0, .int .u16 0].toArray, sv [], .int .i64 ((2 : Nat) : Int)]) (.inl rfl) rfl ⟨⟨_, rfl, .inr ⟨_, 7, rfl, rfl, rds_all (by exact rm), rfl⟩⟩, rfl, rfl, trivial⟩ ⟨_, ⟨rfl, rfl⟩, fun w h => h.nil_of⟩
 ·skip
  refine cd_seq ?_
  refine cd_region [2, 0, 0] ?_
  refine op_alloc Hdr3.ze_44 rfl fun b2 => ?_
  refine op_y (y_assign rfl) rfl ?_
  refine op_y (y_assign rfl) rfl ?_
  refine op_nil ?_
  refine ent_then ?_
  refine cd_seq ?_
  refine cd_block ?_
  refine cd_seq ?_
  refine cd_region [0, 0, 0, 0] ?_
  refine op_y (y_move rfl) rfl ?_
  first | refine op_y (y_slen Hdr3.un_9 rfl) rfl ?_ | refine op_y (y_lens Hdr3.un_9 rfl) rfl ?_
  first | refine op_y (y_lt rfl rfl (decide_eq_true (by omega))) rfl ?_ | refine op_y (y_lt rfl rfl (decide_eq_false (by omega))) rfl ?_ | refine op_y (y_lt rfl rfl rfl) rfl ?_
  refine op_y (y_assign rfl) rfl ?_
  refine op_nil ?_
  refine ent_then ?_
  refine cd_iff rfl ?_
  refine cd_seq ?_
  refine cd_region [0, 2, 0, 0] ?_
  refine op_y (y_move rfl) rfl ?_
  apply op_c Hdr3.ca_86 rfl rfl (fun e he_ => form_ct e l (by omega) hl)
  ·exact sx
  rintro _ _ ⟨rfl, rfl⟩ G_ hG_
  simp only [zn] at hG_; subst hG_
  by_cases hfm : formB l = false
  ·rw [hfm]
   skip
   have hE : takeE l = 3 := by simp [takeE, h28, hfm]
   have e1 : takeH l = ⟨0, 0, 0, 0, 0, 0, 0⟩ := by simp [takeH, hE]
   have e2 : takeS l = [] := by simp [takeS, hE]
   rw [hE, e1, e2]
   first | refine op_y (y_not (b := true) (r := false) rfl rfl) rfl ?_ | refine op_y (y_not (b := false) (r := true) rfl rfl) rfl ?_ | refine op_y (y_not rfl rfl) rfl ?_
   refine op_y (y_assign rfl) rfl ?_
   refine op_nil ?_
   refine ent_then ?_
   refine cd_ift rfl ?_
   refine cd_seq ?_
   refine cd_region [0, 2, 0, 0] ?_
   apply op_build Hdr3.pl_44 Hdr3.ze_44 rfl rfl
   ·(first | ((try simp [fillL, splice, Value.cells, Nat.zero, Hdr.cs]) <;> rfl) | rfl)
   apply op_sta Hdr3.sz_44 rfl rfl rfl rfl
   ·exact rm
   ·simp
   ·(first | ((try simp only [zz, splice, Nat.reduceAdd, Nat.zero_mul, Nat.zero, Hdr.cs]) <;> rfl) | rfl)
   refine op_y (y_assign rfl) rfl ?_
   refine op_y (y_assign rfl) rfl ?_
   refine op_nil ?_
   refine ent_then ?_
   refine cd_ret ?_
   refine ent_block_ret ?_
   refine ent_thn_ret ?_
   refine ent_rets (rs := [_, _, _]) (vs := [.agg [.int .u8 0, .int .u16 0, .int .u8 0, .int .u32 0, .int .u32 0, .int .u16 0, .int .u16 0].toArray, sv [], .int .i64 ((3 : Nat) : Int)]) (.inl rfl) rfl ⟨⟨_, rfl, .inr ⟨_, 7, rfl, rfl, rds_all (by exact rm), rfl⟩⟩, rfl, rfl, trivial⟩ ⟨_, ⟨rfl, rfl⟩, fun w h => h.nil_of⟩
  ·have hft : formB l = true := by simpa using hfm
   rw [hft]
   skip
   have hq := inetF_lt (l.take 10 ++ [0, 0] ++ (l.drop 12).take 8)
   have hp := hf_lt l 10
   first | refine op_y (y_not (b := true) (r := false) rfl rfl) rfl ?_ | refine op_y (y_not (b := false) (r := true) rfl rfl) rfl ?_ | refine op_y (y_not rfl rfl) rfl ?_
   refine op_y (y_assign rfl) rfl ?_
   refine op_nil ?_
   refine ent_then ?_
   refine cd_iff rfl ?_
   refine cd_seq ?_
   refine cd_draw ([]) [0, 2, 3, 4, 5, 6, 7, 1, 8, 9, 10] [0, 0, 0, 0, 0, 0, 0, 2, 2, 0, 0] mixed_ (by kernel_rfl) ?_
   refine op_y (y_move rfl) rfl ?_
   refine op_y (y_move rfl) rfl ?_
   refine op_y (y_sshi (j := 10) Hdr3.un_9 rfl rfl rfl (by first | omega | (simp only [List.length_append, List.length_cons, List.length_nil, List.length_take, List.length_drop]; omega) | (simp; omega) | (simp; done))) rfl ?_
   refine op_y (y_cat rfl rfl (by first | omega | (simp only [List.length_append, List.length_cons, List.length_nil, List.length_take, List.length_drop]; omega) | (simp; omega) | (simp; done))) rfl ?_
   refine op_y (y_move rfl) rfl ?_
   refine op_y (y_ssmid (j := 12) (k := 20) Hdr3.un_9 rfl rfl rfl rfl rfl (by first | omega | (simp only [List.length_append, List.length_cons, List.length_nil, List.length_take, List.length_drop]; omega) | (simp; omega) | (simp; done)) (by first | omega | (simp only [List.length_append, List.length_cons, List.length_nil, List.length_take, List.length_drop]; omega) | (simp; omega) | (simp; done))) rfl ?_
   refine op_y (y_cat rfl rfl (by first | omega | (simp only [List.length_append, List.length_cons, List.length_nil, List.length_take, List.length_drop]; omega) | (simp; omega) | (simp; done))) rfl ?_
   apply op_c Hdr3.ca_83 rfl rfl (fun e he_ => half_ct e l 10 (by omega) hl)
   ·exact sx
   rintro _ _ ⟨rfl, rfl⟩ G_ hG_
   simp only [zn] at hG_; subst hG_
   apply op_c Hdr3.ca_85 rfl rfl (fun e he_ => inet_ct e (l.take 10 ++ [0, 0] ++ (l.drop 12).take 8) (by simp only [List.length_append, List.length_cons, List.length_nil, List.length_take, List.length_drop]; omega))
   ·exact sx
   rintro _ _ ⟨rfl, rfl⟩ G_ hG_
   simp only [zn] at hG_; subst hG_
   by_cases hsm : hf l 10 = inetF (l.take 10 ++ [0, 0] ++ (l.drop 12).take 8)
   ·have hsb : sumB l = true := beq_iff_eq.2 hsm
    have hE : takeE l = 0 := by simp [takeE, h28, hft, hsb]
    obtain ⟨q, hqe⟩ : ∃ q, bt l 1 / 4 = q := ⟨_, rfl⟩
    have e1 : takeH l = ⟨q, hf l 4, bt l 8, wd l 12, wd l 16, hf l 20, hf l 22⟩ := by rw [← hqe]; simp [takeH, hE, hdrOf]
    have e2 : takeS l = l.drop 28 := by simp [takeS, hE]
    rw [hE, e1, e2]
    skip
    first | refine op_y (y_ne rfl rfl (neT (by omega))) rfl ?_ | refine op_y (y_ne rfl rfl (neF (by omega))) rfl ?_ | refine op_y (y_ne rfl rfl rfl) rfl ?_
    refine op_y (y_assign rfl) rfl ?_
    refine op_nil ?_
    refine ent_then ?_
    refine cd_iff rfl ?_
    refine cd_skip ?_
    refine ent_block ?_
    refine ent_then ?_
    refine cd_cut (α := Nat) (fun _ => True) (fun b => [(0, sv l), (2, .pointer (some ⟨b2, 0, none⟩)), (5, .pointer (some ⟨b, 0, none⟩))]) (fun b => [pt b 44 [.int .u8 (q : Nat), .int .u16 (hf l 4 : Nat), .int .u8 (bt l 8 : Nat), .int .u32 (wd l 12 : Nat), .int .u32 (wd l 16 : Nat), .int .u16 (hf l 20 : Nat), .int .u16 (hf l 22 : Nat)], pt b2 44 [.int .u8 0, .int .u16 0, .int .u8 0, .int .u32 0, .int .u32 0, .int .u16 0, .int .u16 0]]) ?_ ?_
    ·skip
     refine cd_drawA ([]) [0, 1, 2, 3, 5, 6, 7, 9, 11, 13, 4, 8, 10, 12, 14, 15] 16 2 [17] [0, 0, 0, 0, 0, 0, 0, 0, 0, 0, 2, 2, 2, 2, 2, 0] [2] mixed_ (by kernel_rfl) ?_
     refine opA_y (y_move rfl) rfl ?_
     refine opA_y (y_sidx (j := 1) Hdr3.un_9 rfl rfl rfl (by first | omega | (simp only [List.length_append, List.length_cons, List.length_nil, List.length_take, List.length_drop]; omega) | (simp; omega) | (simp; done))) rfl ?_
     refine opA_y (y_shrr (a := bt l 1) (b := 2) q rfl rfl rfl rfl (by decide) hqe) rfl ?_
     refine opA_y (y_move rfl) rfl ?_
     refine opA_y (y_move rfl) rfl ?_
     refine opA_y (y_sidx (j := 8) Hdr3.un_9 rfl rfl rfl (by first | omega | (simp only [List.length_append, List.length_cons, List.length_nil, List.length_take, List.length_drop]; omega) | (simp; omega) | (simp; done))) rfl ?_
     refine opA_y (y_move rfl) rfl ?_
     refine opA_y (y_move rfl) rfl ?_
     refine opA_y (y_move rfl) rfl ?_
     refine opA_y (y_move rfl) rfl ?_
     apply opA_c Hdr3.ca_83 rfl rfl rfl (.inl rfl) (fun e he_ => half_ct e l 4 (by omega) hl)
     ·exact sx
     ·rintro _ _ ⟨rfl, rfl⟩ G_ hG_
      simp only [zn] at hG_; subst hG_
      apply opA_c Hdr3.ca_87 rfl rfl rfl (.inl rfl) (fun e he_ => word_ct e l 12 (by omega) hl)
      ·exact sx
      ·rintro _ _ ⟨rfl, rfl⟩ G_ hG_
       simp only [zn] at hG_; subst hG_
       apply opA_c Hdr3.ca_87 rfl rfl rfl (.inl rfl) (fun e he_ => word_ct e l 16 (by omega) hl)
       ·exact sx
       ·rintro _ _ ⟨rfl, rfl⟩ G_ hG_
        simp only [zn] at hG_; subst hG_
        apply opA_c Hdr3.ca_83 rfl rfl rfl (.inl rfl) (fun e he_ => half_ct e l 20 (by omega) hl)
        ·exact sx
        ·rintro _ _ ⟨rfl, rfl⟩ G_ hG_
         simp only [zn] at hG_; subst hG_
         apply opA_c Hdr3.ca_83 rfl rfl rfl (.inl rfl) (fun e he_ => half_ct e l 22 (by omega) hl)
         ·exact sx
         ·rintro _ _ ⟨rfl, rfl⟩ G_ hG_
          simp only [zn] at hG_; subst hG_
          apply opA_build Hdr3.pl_44 Hdr3.ze_44 rfl rfl
          ·(first | ((try simp [fillL, splice, Value.cells, Nat.zero, Hdr.cs]) <;> rfl) | rfl)
          refine opA_nil ?_
          refine op_alloc Hdr3.ze_44 rfl fun b5 => ?_
          apply op_sta Hdr3.sz_44 rfl rfl rfl rfl
          ·exact rm
          ·simp
          ·(first | ((try simp only [zz, splice, Nat.reduceAdd, Nat.zero_mul, Nat.zero, Hdr.cs]) <;> rfl) | rfl)
          refine op_nil ?_
          refine ent_join b5 trivial ⟨rfl, rfl, rfl, trivial⟩ fun w h => ?_
          apply Sat.only (h := h)
          exact sx
         ·skip
          refine op_alloc Hdr3.ze_44 rfl fun b5 => ?_
          apply op_c Hdr3.ca_83 rfl rfl (fun e he_ => half_ct e l 22 (by omega) hl)
          ·exact sx
          rintro _ _ ⟨rfl, rfl⟩ G_ hG_
          simp only [zn] at hG_; subst hG_
          apply op_build Hdr3.pl_44 Hdr3.ze_44 rfl rfl
          ·(first | ((try simp [fillL, splice, Value.cells, Nat.zero, Hdr.cs]) <;> rfl) | rfl)
          apply op_sta Hdr3.sz_44 rfl rfl rfl rfl
          ·exact rm
          ·simp
          ·(first | ((try simp only [zz, splice, Nat.reduceAdd, Nat.zero_mul, Nat.zero, Hdr.cs]) <;> rfl) | rfl)
          refine op_nil ?_
          refine ent_join b5 trivial ⟨rfl, rfl, rfl, trivial⟩ fun w h => ?_
          apply Sat.only (h := h)
          exact sx
        ·skip
         refine op_alloc Hdr3.ze_44 rfl fun b5 => ?_
         apply op_c Hdr3.ca_83 rfl rfl (fun e he_ => half_ct e l 20 (by omega) hl)
         ·exact sx
         rintro _ _ ⟨rfl, rfl⟩ G_ hG_
         simp only [zn] at hG_; subst hG_
         apply op_c Hdr3.ca_83 rfl rfl (fun e he_ => half_ct e l 22 (by omega) hl)
         ·exact sx
         rintro _ _ ⟨rfl, rfl⟩ G_ hG_
         simp only [zn] at hG_; subst hG_
         apply op_build Hdr3.pl_44 Hdr3.ze_44 rfl rfl
         ·(first | ((try simp [fillL, splice, Value.cells, Nat.zero, Hdr.cs]) <;> rfl) | rfl)
         apply op_sta Hdr3.sz_44 rfl rfl rfl rfl
         ·exact rm
         ·simp
         ·(first | ((try simp only [zz, splice, Nat.reduceAdd, Nat.zero_mul, Nat.zero, Hdr.cs]) <;> rfl) | rfl)
         refine op_nil ?_
         refine ent_join b5 trivial ⟨rfl, rfl, rfl, trivial⟩ fun w h => ?_
         apply Sat.only (h := h)
         exact sx
       ·skip
        refine op_alloc Hdr3.ze_44 rfl fun b5 => ?_
        apply op_c Hdr3.ca_87 rfl rfl (fun e he_ => word_ct e l 16 (by omega) hl)
        ·exact sx
        rintro _ _ ⟨rfl, rfl⟩ G_ hG_
        simp only [zn] at hG_; subst hG_
        apply op_c Hdr3.ca_83 rfl rfl (fun e he_ => half_ct e l 20 (by omega) hl)
        ·exact sx
        rintro _ _ ⟨rfl, rfl⟩ G_ hG_
        simp only [zn] at hG_; subst hG_
        apply op_c Hdr3.ca_83 rfl rfl (fun e he_ => half_ct e l 22 (by omega) hl)
        ·exact sx
        rintro _ _ ⟨rfl, rfl⟩ G_ hG_
        simp only [zn] at hG_; subst hG_
        apply op_build Hdr3.pl_44 Hdr3.ze_44 rfl rfl
        ·(first | ((try simp [fillL, splice, Value.cells, Nat.zero, Hdr.cs]) <;> rfl) | rfl)
        apply op_sta Hdr3.sz_44 rfl rfl rfl rfl
        ·exact rm
        ·simp
        ·(first | ((try simp only [zz, splice, Nat.reduceAdd, Nat.zero_mul, Nat.zero, Hdr.cs]) <;> rfl) | rfl)
        refine op_nil ?_
        refine ent_join b5 trivial ⟨rfl, rfl, rfl, trivial⟩ fun w h => ?_
        apply Sat.only (h := h)
        exact sx
      ·skip
       refine op_alloc Hdr3.ze_44 rfl fun b5 => ?_
       apply op_c Hdr3.ca_87 rfl rfl (fun e he_ => word_ct e l 12 (by omega) hl)
       ·exact sx
       rintro _ _ ⟨rfl, rfl⟩ G_ hG_
       simp only [zn] at hG_; subst hG_
       apply op_c Hdr3.ca_87 rfl rfl (fun e he_ => word_ct e l 16 (by omega) hl)
       ·exact sx
       rintro _ _ ⟨rfl, rfl⟩ G_ hG_
       simp only [zn] at hG_; subst hG_
       apply op_c Hdr3.ca_83 rfl rfl (fun e he_ => half_ct e l 20 (by omega) hl)
       ·exact sx
       rintro _ _ ⟨rfl, rfl⟩ G_ hG_
       simp only [zn] at hG_; subst hG_
       apply op_c Hdr3.ca_83 rfl rfl (fun e he_ => half_ct e l 22 (by omega) hl)
       ·exact sx
       rintro _ _ ⟨rfl, rfl⟩ G_ hG_
       simp only [zn] at hG_; subst hG_
       apply op_build Hdr3.pl_44 Hdr3.ze_44 rfl rfl
       ·(first | ((try simp [fillL, splice, Value.cells, Nat.zero, Hdr.cs]) <;> rfl) | rfl)
       apply op_sta Hdr3.sz_44 rfl rfl rfl rfl
       ·exact rm
       ·simp
       ·(first | ((try simp only [zz, splice, Nat.reduceAdd, Nat.zero_mul, Nat.zero, Hdr.cs]) <;> rfl) | rfl)
       refine op_nil ?_
       refine ent_join b5 trivial ⟨rfl, rfl, rfl, trivial⟩ fun w h => ?_
       apply Sat.only (h := h)
       exact sx
     ·skip
      refine op_alloc Hdr3.ze_44 rfl fun b5 => ?_
      apply op_c Hdr3.ca_83 rfl rfl (fun e he_ => half_ct e l 4 (by omega) hl)
      ·exact sx
      rintro _ _ ⟨rfl, rfl⟩ G_ hG_
      simp only [zn] at hG_; subst hG_
      apply op_c Hdr3.ca_87 rfl rfl (fun e he_ => word_ct e l 12 (by omega) hl)
      ·exact sx
      rintro _ _ ⟨rfl, rfl⟩ G_ hG_
      simp only [zn] at hG_; subst hG_
      apply op_c Hdr3.ca_87 rfl rfl (fun e he_ => word_ct e l 16 (by omega) hl)
      ·exact sx
      rintro _ _ ⟨rfl, rfl⟩ G_ hG_
      simp only [zn] at hG_; subst hG_
      apply op_c Hdr3.ca_83 rfl rfl (fun e he_ => half_ct e l 20 (by omega) hl)
      ·exact sx
      rintro _ _ ⟨rfl, rfl⟩ G_ hG_
      simp only [zn] at hG_; subst hG_
      apply op_c Hdr3.ca_83 rfl rfl (fun e he_ => half_ct e l 22 (by omega) hl)
      ·exact sx
      rintro _ _ ⟨rfl, rfl⟩ G_ hG_
      simp only [zn] at hG_; subst hG_
      apply op_build Hdr3.pl_44 Hdr3.ze_44 rfl rfl
      ·(first | ((try simp [fillL, splice, Value.cells, Nat.zero, Hdr.cs]) <;> rfl) | rfl)
      apply op_sta Hdr3.sz_44 rfl rfl rfl rfl
      ·exact rm
      ·simp
      ·(first | ((try simp only [zz, splice, Nat.reduceAdd, Nat.zero_mul, Nat.zero, Hdr.cs]) <;> rfl) | rfl)
      refine op_nil ?_
      refine ent_join b5 trivial ⟨rfl, rfl, rfl, trivial⟩ fun w h => ?_
      apply Sat.only (h := h)
      exact sx
    skip
    rintro b5 -
    refine cd_seq ?_
    refine cd_drawL [0, 1, 2, 3, 4, 5, 6] [3, 0, 0, 4, 2, 0, 0] mixed_ (by kernel_rfl) ?_
    apply op_ldas Hdr3.ag_44 rfl rfl
    ·exact rm
    ·(first | ((try simp only [zz, splice, Nat.reduceAdd, Nat.zero_mul, Nat.zero, Hdr.cs]) <;> rfl) | rfl)
    ·rfl
    ·(first | exact fun w h => h | exact fun w h => h.drop | (intro w h; apply Sat.only (h := h); exact sx))
    refine op_y (y_move rfl) rfl ?_
    refine op_y (y_sslo (j := 28) Hdr3.un_9 rfl rfl rfl (by first | omega | (simp only [List.length_append, List.length_cons, List.length_nil, List.length_take, List.length_drop]; omega) | (simp; omega) | (simp; done))) rfl ?_
    apply op_c4 Hdr3.ca_88 rfl rfl (fun e he_ => clone_ct e (l.drop 28) (by rw [List.length_drop]; omega))
    ·exact sx
    rintro _ _ ⟨rfl, rfl⟩ G_ hG_
    simp only [zn] at hG_; subst hG_
    refine ⟨by (first | exact fun w h => h | exact fun w h => h.drop | (intro w h; apply Sat.only (h := h); exact sx)), ?_⟩
    apply op_sta Hdr3.sz_44 rfl rfl rfl rfl
    ·exact rm
    ·simp
    ·(first | ((try simp only [zz, splice, Nat.reduceAdd, Nat.zero_mul, Nat.zero, Hdr.cs]) <;> rfl) | rfl)
    refine op_y (y_assign rfl) rfl ?_
    refine op_y (y_assign rfl) rfl ?_
    refine op_nil ?_
    refine ent_then ?_
    refine cd_ret ?_
    refine ent_rets (rs := [_, _, _]) (vs := [.agg (List.toArray [.int .u8 (q : Nat), .int .u16 (hf l 4 : Nat), .int .u8 (bt l 8 : Nat), .int .u32 (wd l 12 : Nat), .int .u32 (wd l 16 : Nat), .int .u16 (hf l 20 : Nat), .int .u16 (hf l 22 : Nat)]), sv (l.drop 28), .int .i64 ((0 : Nat) : Int)]) (.inl rfl) rfl ⟨⟨_, rfl, .inr ⟨_, 7, rfl, rfl, rds_all (by exact rm), rfl⟩⟩, rfl, rfl, trivial⟩ ⟨_, ⟨rfl, rfl⟩, fun w h => h.nil_of⟩
   ·have hsb : sumB l = false := beq_eq_false_iff_ne.2 hsm
    have hE : takeE l = 11 := by simp [takeE, h28, hft, hsb]
    have e1 : takeH l = ⟨0, 0, 0, 0, 0, 0, 0⟩ := by simp [takeH, hE]
    have e2 : takeS l = [] := by simp [takeS, hE]
    rw [hE, e1, e2]
    skip
    first | refine op_y (y_ne rfl rfl (neT (by omega))) rfl ?_ | refine op_y (y_ne rfl rfl (neF (by omega))) rfl ?_ | refine op_y (y_ne rfl rfl rfl) rfl ?_
    refine op_y (y_assign rfl) rfl ?_
    refine op_nil ?_
    refine ent_then ?_
    refine cd_ift rfl ?_
    refine cd_seq ?_
    refine cd_region [0, 2, 0, 0] ?_
    apply op_build Hdr3.pl_44 Hdr3.ze_44 rfl rfl
    ·(first | ((try simp [fillL, splice, Value.cells, Nat.zero, Hdr.cs]) <;> rfl) | rfl)
    apply op_sta Hdr3.sz_44 rfl rfl rfl rfl
    ·exact rm
    ·simp
    ·(first | ((try simp only [zz, splice, Nat.reduceAdd, Nat.zero_mul, Nat.zero, Hdr.cs]) <;> rfl) | rfl)
    refine op_y (y_assign rfl) rfl ?_
    refine op_y (y_assign rfl) rfl ?_
    refine op_nil ?_
    refine ent_then ?_
    refine cd_ret ?_
    refine ent_block_ret ?_
    refine ent_thn_ret ?_
    refine ent_rets (rs := [_, _, _]) (vs := [.agg [.int .u8 0, .int .u16 0, .int .u8 0, .int .u32 0, .int .u32 0, .int .u16 0, .int .u16 0].toArray, sv [], .int .i64 ((11 : Nat) : Int)]) (.inl rfl) rfl ⟨⟨_, rfl, .inr ⟨_, 7, rfl, rfl, rds_all (by exact rm), rfl⟩⟩, rfl, rfl, trivial⟩ ⟨_, ⟨rfl, rfl⟩, fun w h => h.nil_of⟩
theorem hop_ct (c : Cx) (l : List UInt8) (hl : l.length ≤ 70000) : Ct Tryz.prog 44 #[sv l] c [] fun v L => v = .tuple #[sv (hopF l), .int .i64 (hopE l : Nat)] ∧ L = [] := by
 refine ct_fn (args := [sv l]) [(0, sv l)] Tryz.func44 rfl Tryz.ntmps44 rfl ⟨rfl, trivial⟩ ?_
 refine cd_seq ?_
 refine cd_region [0, 0] ?_
 refine op_y (y_assign rfl) rfl ?_
 refine op_y (y_assign rfl) rfl ?_
 refine op_nil ?_
 refine ent_then ?_
 refine cd_seq ?_
 refine cd_region [0, 2, 0, 0, 0, 0, 2, 2, 0, 0] ?_
 refine op_y (y_move rfl) rfl ?_
 apply op_c Hdr3.ca_46 rfl rfl (fun e he_ => take_ct e l hl)
 ·exact sx
 rintro _ _ ⟨rfl, rfl⟩ G_ hG_
 simp only [zn] at hG_; subst hG_
 by_cases hE : takeE l = 0
 ·skip
  have e1 : takeH l = hdrOf l := by simp [takeH, hE]
  have hlen := takeE_len hE
  have h8 := bt_lt l 8
  have h88 := hf_lt l 8
  rw [hE, e1]
  by_cases h2 : bt l 8 < 2
  ·skip
   have h2' : (hdrOf l).ttl < 2 := h2
   have h1 : hopE l = 21 := by simp [hopE, hE, h2]
   have h3 : hopF l = [] := by simp [hopF, h1]
   rw [h1, h3]
   refine op_y (y_move rfl) rfl ?_
   refine op_y (y_ext rfl rfl) rfl ?_
   refine op_y (y_ext rfl rfl) rfl ?_
   refine op_y (y_ext rfl rfl) rfl ?_
   refine op_alloc Hdr3.ze_44 rfl fun b4 => ?_
   apply op_sta Hdr3.sz_44 rfl rfl rfl rfl
   ·exact rm
   ·simp
   ·(first | ((try simp only [zz, splice, Nat.reduceAdd, Nat.zero_mul, Nat.zero, Hdr.cs]) <;> rfl) | rfl)
   refine op_y (y_assign rfl) rfl ?_
   refine op_y (y_assign rfl) rfl ?_
   refine op_nil ?_
   refine ent_then ?_
   refine cd_seq ?_
   refine cd_block ?_
   refine cd_seq ?_
   refine cd_region [0, 0, 0] ?_
   refine op_y (y_move rfl) rfl ?_
   first | refine op_y (y_ne rfl rfl (neT (by omega))) rfl ?_ | refine op_y (y_ne rfl rfl (neF (by omega))) rfl ?_ | refine op_y (y_ne rfl rfl rfl) rfl ?_
   refine op_y (y_assign rfl) rfl ?_
   refine op_nil ?_
   refine ent_then ?_
   refine cd_iff rfl ?_
   refine cd_seq ?_
   refine cd_region [0, 1, 0, 0] ?_
   first | refine op_y (y_fld Hdr3.fo_44_2 rfl) rfl ?_ | refine op_y (y_flda Hdr3.fo_44_2 rfl) rfl ?_
   apply op_ld Hdr3.sc_5 rfl rfl
   ·exact rm
   ·rfl
   first | refine op_y (y_lt rfl rfl (decide_eq_true (by omega))) rfl ?_ | refine op_y (y_lt rfl rfl (decide_eq_false (by omega))) rfl ?_ | refine op_y (y_lt rfl rfl rfl) rfl ?_
   refine op_y (y_assign rfl) rfl ?_
   refine op_nil ?_
   refine ent_then ?_
   refine cd_ift rfl ?_
   refine cd_seq ?_
   refine cd_region [0, 0] ?_
   refine op_y (y_assign rfl) rfl ?_
   refine op_y (y_assign rfl) rfl ?_
   refine op_nil ?_
   refine ent_then ?_
   refine cd_ret ?_
   refine ent_block_ret ?_
   refine ent_thn_ret ?_
   refine ent_ret2 rfl rfl rfl ⟨_, ⟨rfl, rfl⟩, fun w h => h.nil_of⟩
  ·skip
   have h2' : ¬ (hdrOf l).ttl < 2 := h2
   have h1 : hopE l = 0 := by simp [hopE, hE, h2]
   have h3 : hopF l = withF l 8 (hf l 8 - 256) := by simp [hopF, h1]
   have h4 : 256 ≤ hf l 8 := by unfold hf; omega
   rw [h1, h3]
   refine op_y (y_move rfl) rfl ?_
   refine op_y (y_ext rfl rfl) rfl ?_
   refine op_y (y_ext rfl rfl) rfl ?_
   refine op_y (y_ext rfl rfl) rfl ?_
   refine op_alloc Hdr3.ze_44 rfl fun b4 => ?_
   apply op_sta Hdr3.sz_44 rfl rfl rfl rfl
   ·exact rm
   ·simp
   ·(first | ((try simp only [zz, splice, Nat.reduceAdd, Nat.zero_mul, Nat.zero, Hdr.cs]) <;> rfl) | rfl)
   refine op_y (y_assign rfl) rfl ?_
   refine op_y (y_assign rfl) rfl ?_
   refine op_nil ?_
   refine ent_then ?_
   refine cd_seq ?_
   refine cd_block ?_
   refine cd_seq ?_
   refine cd_region [0, 0, 0] ?_
   refine op_y (y_move rfl) rfl ?_
   first | refine op_y (y_ne rfl rfl (neT (by omega))) rfl ?_ | refine op_y (y_ne rfl rfl (neF (by omega))) rfl ?_ | refine op_y (y_ne rfl rfl rfl) rfl ?_
   refine op_y (y_assign rfl) rfl ?_
   refine op_nil ?_
   refine ent_then ?_
   refine cd_iff rfl ?_
   refine cd_seq ?_
   refine cd_region [0, 1, 0, 0] ?_
   first | refine op_y (y_fld Hdr3.fo_44_2 rfl) rfl ?_ | refine op_y (y_flda Hdr3.fo_44_2 rfl) rfl ?_
   apply op_ld Hdr3.sc_5 rfl rfl
   ·exact rm
   ·rfl
   first | refine op_y (y_lt rfl rfl (decide_eq_true (by omega))) rfl ?_ | refine op_y (y_lt rfl rfl (decide_eq_false (by omega))) rfl ?_ | refine op_y (y_lt rfl rfl rfl) rfl ?_
   refine op_y (y_assign rfl) rfl ?_
   refine op_nil ?_
   refine ent_then ?_
   refine cd_iff rfl ?_
   refine cd_skip ?_
   refine ent_block ?_
   refine ent_then ?_
   refine cd_seq ?_
   refine cd_region [0, 0, 2, 0, 2, 0, 0] ?_
   refine op_y (y_move rfl) rfl ?_
   refine op_y (y_move rfl) rfl ?_
   apply op_c Hdr3.ca_83 rfl rfl (fun e he_ => half_ct e l 8 (by omega) hl)
   ·exact sx
   rintro _ _ ⟨rfl, rfl⟩ G_ hG_
   simp only [zn] at hG_; subst hG_
   refine op_y (y_subr (a := hf l 8) (b := 256) (hf l 8 - 256) rfl rfl rfl rfl rfl (by omega) h88) rfl ?_
   apply op_c Hdr3.ca_82 rfl rfl (fun e he_ => with_ct e l 8 (hf l 8 - 256) (by omega) (by omega) hl (by omega))
   ·exact sx
   rintro _ _ ⟨rfl, rfl⟩ G_ hG_
   simp only [zn] at hG_; subst hG_
   refine op_y (y_assign rfl) rfl ?_
   refine op_y (y_assign rfl) rfl ?_
   refine op_nil ?_
   refine ent_then ?_
   refine cd_ret ?_
   refine ent_ret2 rfl rfl rfl ⟨_, ⟨rfl, rfl⟩, fun w h => h.nil_of⟩
 ·skip
  have h1 : hopE l = takeE l := by simp [hopE, hE]
  have h3 : hopF l = [] := by simp [hopF, h1, hE]
  rw [h1, h3]
  refine op_y (y_move rfl) rfl ?_
  refine op_y (y_ext rfl rfl) rfl ?_
  refine op_y (y_ext rfl rfl) rfl ?_
  refine op_y (y_ext rfl rfl) rfl ?_
  refine op_alloc Hdr3.ze_44 rfl fun b4 => ?_
  apply op_sta Hdr3.sz_44 rfl rfl rfl rfl
  ·exact rm
  ·simp
  ·(first | ((try simp only [zz, splice, Nat.reduceAdd, Nat.zero_mul, Nat.zero, Hdr.cs]) <;> rfl) | rfl)
  refine op_y (y_assign rfl) rfl ?_
  refine op_y (y_assign rfl) rfl ?_
  refine op_nil ?_
  refine ent_then ?_
  refine cd_seq ?_
  refine cd_block ?_
  refine cd_seq ?_
  refine cd_region [0, 0, 0] ?_
  refine op_y (y_move rfl) rfl ?_
  first | refine op_y (y_ne rfl rfl (neT (by omega))) rfl ?_ | refine op_y (y_ne rfl rfl (neF (by omega))) rfl ?_ | refine op_y (y_ne rfl rfl rfl) rfl ?_
  refine op_y (y_assign rfl) rfl ?_
  refine op_nil ?_
  refine ent_then ?_
  refine cd_ift rfl ?_
  refine cd_seq ?_
  refine cd_region [0, 0, 0] ?_
  refine op_y (y_move rfl) rfl ?_
  refine op_y (y_assign rfl) rfl ?_
  refine op_y (y_assign rfl) rfl ?_
  refine op_nil ?_
  refine ent_then ?_
  refine cd_ret ?_
  refine ent_block_ret ?_
  refine ent_thn_ret ?_
  refine ent_ret2 rfl rfl rfl ⟨_, ⟨rfl, rfl⟩, fun w h => h.nil_of⟩
theorem put_ct (c : Cx) (h : Hdr) (hk : h.ok) (l : List UInt8) (hl : l.length ≤ 9223372036854775000) : Ct Tryz.prog 45 #[.agg (Hdr.cs h).toArray, sv l] c [] fun v L => v = .tuple #[sv (putF h l), .int .i64 (putE h l : Nat)] ∧ L = [] := by
 obtain ⟨k1, k2, k3, k4, k5, k6, k7⟩ := hk
 refine ct_fn (args := [.agg (Hdr.cs h).toArray, sv l]) [(0, .agg (Hdr.cs h).toArray), (1, sv l)] Tryz.func45 rfl Tryz.ntmps45 rfl ⟨rfl, rfl, trivial⟩ ?_
 by_cases h1 : 63 < h.dscp
 ·skip
  have hE : putE h l = 6 := by simp [putE, h1]
  have hF : putF h l = [] := by simp [putF, hE]
  rw [hE, hF]
  refine cd_seq ?_
  refine cd_region [2, 0, 0] ?_
  refine op_boxa rfl rfl fun b2 => ?_
  refine op_y (y_assign rfl) rfl ?_
  refine op_y (y_assign rfl) rfl ?_
  refine op_nil ?_
  refine ent_then ?_
  refine cd_seq ?_
  refine cd_block ?_
  refine cd_seq ?_
  refine cd_region [0, 1, 0, 0] ?_
  first | refine op_y (y_fld0 Hdr3.fo_44_0 rfl) rfl ?_ | refine op_y (y_flda Hdr3.fo_44_0 rfl) rfl ?_
  apply op_ld Hdr3.sc_5 rfl rfl
  ·exact rm
  ·rfl
  first | refine op_y (y_gt rfl rfl (decide_eq_true (by omega))) rfl ?_ | refine op_y (y_gt rfl rfl (decide_eq_false (by omega))) rfl ?_ | refine op_y (y_gt rfl rfl rfl) rfl ?_
  refine op_y (y_assign rfl) rfl ?_
  refine op_nil ?_
  refine ent_then ?_
  refine cd_ift rfl ?_
  refine cd_seq ?_
  refine cd_region [0, 0] ?_
  refine op_y (y_assign rfl) rfl ?_
  refine op_y (y_assign rfl) rfl ?_
  refine op_nil ?_
  refine ent_then ?_
  refine cd_ret ?_
  refine ent_block_ret ?_
  refine ent_thn_ret ?_
  refine ent_ret2 rfl rfl rfl ⟨_, ⟨rfl, rfl⟩, fun w h => h.nil_of⟩
 ·skip
  by_cases h2 : 65507 < l.length
  ·skip
   have hE : putE h l = 4 := by simp [putE, h1, h2]
   have hF : putF h l = [] := by simp [putF, hE]
   rw [hE, hF]
   refine cd_seq ?_
   refine cd_region [2, 0, 0] ?_
   refine op_boxa rfl rfl fun b2 => ?_
   refine op_y (y_assign rfl) rfl ?_
   refine op_y (y_assign rfl) rfl ?_
   refine op_nil ?_
   refine ent_then ?_
   refine cd_seq ?_
   refine cd_block ?_
   refine cd_seq ?_
   refine cd_region [0, 1, 0, 0] ?_
   first | refine op_y (y_fld0 Hdr3.fo_44_0 rfl) rfl ?_ | refine op_y (y_flda Hdr3.fo_44_0 rfl) rfl ?_
   apply op_ld Hdr3.sc_5 rfl rfl
   ·exact rm
   ·rfl
   first | refine op_y (y_gt rfl rfl (decide_eq_true (by omega))) rfl ?_ | refine op_y (y_gt rfl rfl (decide_eq_false (by omega))) rfl ?_ | refine op_y (y_gt rfl rfl rfl) rfl ?_
   refine op_y (y_assign rfl) rfl ?_
   refine op_nil ?_
   refine ent_then ?_
   refine cd_iff rfl ?_
   refine cd_seq ?_
   refine cd_region [0, 0, 0, 0] ?_
   refine op_y (y_move rfl) rfl ?_
   first | refine op_y (y_slen Hdr3.un_9 rfl) rfl ?_ | refine op_y (y_lens Hdr3.un_9 rfl) rfl ?_
   first | refine op_y (y_gt rfl rfl (decide_eq_true (by omega))) rfl ?_ | refine op_y (y_gt rfl rfl (decide_eq_false (by omega))) rfl ?_ | refine op_y (y_gt rfl rfl rfl) rfl ?_
   refine op_y (y_assign rfl) rfl ?_
   refine op_nil ?_
   refine ent_then ?_
   refine cd_ift rfl ?_
   refine cd_seq ?_
   refine cd_region [0, 0] ?_
   refine op_y (y_assign rfl) rfl ?_
   refine op_y (y_assign rfl) rfl ?_
   refine op_nil ?_
   refine ent_then ?_
   refine cd_ret ?_
   refine ent_block_ret ?_
   refine ent_thn_ret ?_
   refine ent_ret2 rfl rfl rfl ⟨_, ⟨rfl, rfl⟩, fun w h => h.nil_of⟩
  ·skip
   have hE : putE h l = 0 := by simp [putE, h1, h2]
   obtain ⟨a1, ea1⟩ : ∃ q, q = 17664 + h.dscp * 4 := ⟨_, rfl⟩
   obtain ⟨a2, ea2⟩ : ∃ q, q = l.length + 28 := ⟨_, rfl⟩
   obtain ⟨a3, ea3⟩ : ∃ q, q = h.ttl * 256 + 17 := ⟨_, rfl⟩
   obtain ⟨a4, ea4⟩ : ∃ q, q = h.src / 65536 := ⟨_, rfl⟩
   obtain ⟨a5, ea5⟩ : ∃ q, q = h.src % 65536 := ⟨_, rfl⟩
   obtain ⟨a6, ea6⟩ : ∃ q, q = h.dst / 65536 := ⟨_, rfl⟩
   obtain ⟨a7, ea7⟩ : ∃ q, q = h.dst % 65536 := ⟨_, rfl⟩
   obtain ⟨a8, ea8⟩ : ∃ q, q = l.length + 8 := ⟨_, rfl⟩
   obtain ⟨front, hfr⟩ : ∃ f, f = hvs [a1, a2, h.id, 0, a3] := ⟨_, rfl⟩
   obtain ⟨back, hbk⟩ : ∃ f, f = hvs [a4, a5, a6, a7] := ⟨_, rfl⟩
   obtain ⟨top, htp⟩ : ∃ f, f = hvs [inetF (front ++ [0, 0] ++ back)] := ⟨_, rfl⟩
   obtain ⟨tail, htl⟩ : ∃ f, f = hvs [h.sport, h.dport, a8, 0] := ⟨_, rfl⟩
   have f1 : front.length = 10 := by rw [hfr, hvs_length]; rfl
   have f2 : back.length = 8 := by rw [hbk, hvs_length]; rfl
   have f3 : top.length = 2 := by rw [htp, hvs_length]; rfl
   have f4 : tail.length = 8 := by rw [htl, hvs_length]; rfl
   have hF : putF h l = front ++ top ++ back ++ tail ++ l := by
    rw [htp, htl, hfr, hbk, ea1, ea2, ea3, ea4, ea5, ea6, ea7, ea8]; simp [putF, hE]
   obtain ⟨s0, hs0⟩ : ∃ s, s = inetF (front ++ [0, 0] ++ back) := ⟨_, rfl⟩
   have hin : s0 < 65536 := hs0 ▸ inetF_lt (front ++ [0, 0] ++ back)
   rw [hE, hF]
   refine cd_seq ?_
   refine cd_region [2, 0, 0] ?_
   refine op_boxa rfl rfl fun b2 => ?_
   refine op_y (y_assign rfl) rfl ?_
   refine op_y (y_assign rfl) rfl ?_
   refine op_nil ?_
   refine ent_then ?_
   refine cd_seq ?_
   refine cd_block ?_
   refine cd_seq ?_
   refine cd_region [0, 1, 0, 0] ?_
   first | refine op_y (y_fld0 Hdr3.fo_44_0 rfl) rfl ?_ | refine op_y (y_flda Hdr3.fo_44_0 rfl) rfl ?_
   apply op_ld Hdr3.sc_5 rfl rfl
   ·exact rm
   ·rfl
   first | refine op_y (y_gt rfl rfl (decide_eq_true (by omega))) rfl ?_ | refine op_y (y_gt rfl rfl (decide_eq_false (by omega))) rfl ?_ | refine op_y (y_gt rfl rfl rfl) rfl ?_
   refine op_y (y_assign rfl) rfl ?_
   refine op_nil ?_
   refine ent_then ?_
   refine cd_iff rfl ?_
   refine cd_seq ?_
   refine cd_region [0, 0, 0, 0] ?_
   refine op_y (y_move rfl) rfl ?_
   first | refine op_y (y_slen Hdr3.un_9 rfl) rfl ?_ | refine op_y (y_lens Hdr3.un_9 rfl) rfl ?_
   first | refine op_y (y_gt rfl rfl (decide_eq_true (by omega))) rfl ?_ | refine op_y (y_gt rfl rfl (decide_eq_false (by omega))) rfl ?_ | refine op_y (y_gt rfl rfl rfl) rfl ?_
   refine op_y (y_assign rfl) rfl ?_
   refine op_nil ?_
   refine ent_then ?_
   refine cd_iff rfl ?_
   refine cd_skip ?_
   refine ent_block ?_
   refine ent_then ?_
   refine cd_seq ?_
   refine cd_region [0, 0, 0, 0] ?_
   refine op_y (y_move rfl) rfl ?_
   first | refine op_y (y_slen Hdr3.un_9 rfl) rfl ?_ | refine op_y (y_lens Hdr3.un_9 rfl) rfl ?_
   refine op_y (y_convr (a := l.length) l.length rfl Hdr3.un_3 Hdr3.un_41 rfl rfl (Nat.mod_eq_of_lt (by show _ < 65536; omega))) rfl ?_
   refine op_y (y_assign rfl) rfl ?_
   refine op_nil ?_
   refine ent_then ?_
   refine cd_seq ?_
   refine cd_region [0, 1, 0, 0, 0, 0, 0, 0, 1, 0, 1, 0, 0, 0, 2, 2, 0] ?_
   first | refine op_y (y_fld0 Hdr3.fo_44_0 rfl) rfl ?_ | refine op_y (y_flda Hdr3.fo_44_0 rfl) rfl ?_
   apply op_ld Hdr3.sc_5 rfl rfl
   ·exact rm
   ·rfl
   first | refine op_y (y_conv Hdr3.un_5 Hdr3.un_41 rfl (wu16 (by omega) (by omega))) rfl ?_ | refine op_y (y_conv Hdr3.un_5 Hdr3.un_41 rfl rfl) rfl ?_
   refine op_y (y_shlr (a := h.dscp) (b := 2) (h.dscp * 4) rfl rfl rfl rfl rfl (by decide) rfl (by show _ < 65536; omega)) rfl ?_
   refine op_y (y_addr (a := 17664) a1 rfl rfl rfl rfl rfl ea1.symm (by show _ < 65536; omega)) rfl ?_
   refine op_y (y_move rfl) rfl ?_
   refine op_y (y_addr (b := 28) a2 rfl rfl rfl rfl rfl ea2.symm (by show _ < 65536; omega)) rfl ?_
   first | refine op_y (y_fld Hdr3.fo_44_1 rfl) rfl ?_ | refine op_y (y_flda Hdr3.fo_44_1 rfl) rfl ?_
   apply op_ld Hdr3.sc_41 rfl rfl
   ·exact rm
   ·rfl
   first | refine op_y (y_fld Hdr3.fo_44_2 rfl) rfl ?_ | refine op_y (y_flda Hdr3.fo_44_2 rfl) rfl ?_
   apply op_ld Hdr3.sc_5 rfl rfl
   ·exact rm
   ·rfl
   first | refine op_y (y_conv Hdr3.un_5 Hdr3.un_41 rfl (wu16 (by omega) (by omega))) rfl ?_ | refine op_y (y_conv Hdr3.un_5 Hdr3.un_41 rfl rfl) rfl ?_
   refine op_y (y_shlr (a := h.ttl) (b := 8) (h.ttl * 256) rfl rfl rfl rfl rfl (by decide) rfl (by show _ < 65536; omega)) rfl ?_
   refine op_y (y_addr (b := 17) a3 rfl rfl rfl rfl rfl ea3.symm (by show _ < 65536; omega)) rfl ?_
   apply op_bslice Hdr3.sl_281 Hdr3.ze_41 rfl rfl rfl rfl rfl
   ·(first | ((try simp [fillL, splice, Value.cells, Nat.zero, Hdr.cs]) <;> rfl) | rfl)
   intro b35
   apply op_c Hdr3.ca_84 rfl rfl (fun e he_ => halves_ct e _ [a1, a2, h.id, 0, a3] [.int .u16 (a1 : Nat), .int .u16 (a2 : Nat), .int .u16 h.id, .int .u16 0, .int .u16 (a3 : Nat)] rfl (by simp; omega) (by simp) 5 rfl)
   ·exact sx
   rintro _ _ ⟨rfl, rfl⟩ G_ hG_
   simp only [zn] at hG_; subst hG_
   rw [← hfr]
   refine op_y (y_assign rfl) rfl ?_
   refine op_nil ?_
   refine ent_then ?_
   refine cd_seq ?_
   refine cd_region [0, 1, 0, 0, 0, 1, 0, 0, 1, 0, 0, 0, 1, 0, 2, 2, 0] ?_
   first | refine op_y (y_fld Hdr3.fo_44_3 rfl) rfl ?_ | refine op_y (y_flda Hdr3.fo_44_3 rfl) rfl ?_
   apply op_ld Hdr3.sc_42 rfl rfl
   ·exact rm
   ·rfl
   refine op_y (y_shrr (a := h.src) (b := 16) a4 rfl rfl rfl rfl (by decide) ea4.symm) rfl ?_
   refine op_y (y_convr (a := a4) a4 rfl Hdr3.un_42 Hdr3.un_41 rfl rfl (Nat.mod_eq_of_lt (by show _ < 65536; omega))) rfl ?_
   first | refine op_y (y_fld Hdr3.fo_44_3 rfl) rfl ?_ | refine op_y (y_flda Hdr3.fo_44_3 rfl) rfl ?_
   apply op_ld Hdr3.sc_42 rfl rfl
   ·exact rm
   ·rfl
   refine op_y (y_convr (a := h.src) a5 rfl Hdr3.un_42 Hdr3.un_41 rfl rfl ea5.symm) rfl ?_
   first | refine op_y (y_fld Hdr3.fo_44_4 rfl) rfl ?_ | refine op_y (y_flda Hdr3.fo_44_4 rfl) rfl ?_
   apply op_ld Hdr3.sc_42 rfl rfl
   ·exact rm
   ·rfl
   refine op_y (y_shrr (a := h.dst) (b := 16) a6 rfl rfl rfl rfl (by decide) ea6.symm) rfl ?_
   refine op_y (y_convr (a := a6) a6 rfl Hdr3.un_42 Hdr3.un_41 rfl rfl (Nat.mod_eq_of_lt (by show _ < 65536; omega))) rfl ?_
   first | refine op_y (y_fld Hdr3.fo_44_4 rfl) rfl ?_ | refine op_y (y_flda Hdr3.fo_44_4 rfl) rfl ?_
   apply op_ld Hdr3.sc_42 rfl rfl
   ·exact rm
   ·rfl
   refine op_y (y_convr (a := h.dst) a7 rfl Hdr3.un_42 Hdr3.un_41 rfl rfl ea7.symm) rfl ?_
   apply op_bslice Hdr3.sl_281 Hdr3.ze_41 rfl rfl rfl rfl rfl
   ·(first | ((try simp [fillL, splice, Value.cells, Nat.zero, Hdr.cs]) <;> rfl) | rfl)
   intro b51
   apply op_c Hdr3.ca_84 rfl rfl (fun e he_ => halves_ct e _ [a4, a5, a6, a7] [.int .u16 (a4 : Nat), .int .u16 (a5 : Nat), .int .u16 (a6 : Nat), .int .u16 (a7 : Nat)] rfl (by simp; omega) (by simp) 4 rfl)
   ·exact sx
   rintro _ _ ⟨rfl, rfl⟩ G_ hG_
   simp only [zn] at hG_; subst hG_
   rw [← hbk]
   refine op_y (y_assign rfl) rfl ?_
   refine op_nil ?_
   refine ent_then ?_
   refine cd_seq ?_
   refine cd_region [0, 0, 0, 0, 2, 2, 2, 0] ?_
   refine op_y (y_move rfl) rfl ?_
   refine op_y (y_cat rfl rfl (by first | omega | (simp only [List.length_append, List.length_cons, List.length_nil, List.length_take, List.length_drop]; omega) | (simp; omega) | (simp; done))) rfl ?_
   refine op_y (y_move rfl) rfl ?_
   refine op_y (y_cat rfl rfl (by first | omega | (simp only [List.length_append, List.length_cons, List.length_nil, List.length_take, List.length_drop]; omega) | (simp; omega) | (simp; done))) rfl ?_
   apply op_c Hdr3.ca_85 rfl rfl (fun e he_ => inet_ct e (front ++ [0, 0] ++ back) (by simp only [List.length_append, List.length_cons, List.length_nil]; omega))
   ·exact sx
   rintro _ _ ⟨rfl, rfl⟩ G_ hG_
   simp only [zn] at hG_; subst hG_
   rw [← hs0]
   apply op_bslice Hdr3.sl_281 Hdr3.ze_41 rfl rfl rfl rfl rfl
   ·(first | ((try simp [fillL, splice, Value.cells, Nat.zero, Hdr.cs]) <;> rfl) | rfl)
   intro b58
   apply op_c Hdr3.ca_84 rfl rfl (fun e he_ => halves_ct e _ [s0] [.int .u16 (s0 : Nat)] rfl (by simpa using hin) (by simp) 1 rfl)
   ·exact sx
   rintro _ _ ⟨rfl, rfl⟩ G_ hG_
   simp only [zn] at hG_; subst hG_
   rw [hs0, ← htp]
   refine op_y (y_assign rfl) rfl ?_
   refine op_nil ?_
   refine ent_then ?_
   refine cd_seq ?_
   refine cd_region [0, 0, 0, 0, 0, 0, 1, 0, 1, 0, 0, 0, 2, 2, 0, 0, 0, 0, 0] ?_
   refine op_y (y_move rfl) rfl ?_
   refine op_y (y_move rfl) rfl ?_
   refine op_y (y_cat rfl rfl (by first | omega | (simp only [List.length_append, List.length_cons, List.length_nil, List.length_take, List.length_drop]; omega) | (simp; omega) | (simp; done))) rfl ?_
   refine op_y (y_move rfl) rfl ?_
   refine op_y (y_cat rfl rfl (by first | omega | (simp only [List.length_append, List.length_cons, List.length_nil, List.length_take, List.length_drop]; omega) | (simp; omega) | (simp; done))) rfl ?_
   first | refine op_y (y_fld Hdr3.fo_44_5 rfl) rfl ?_ | refine op_y (y_flda Hdr3.fo_44_5 rfl) rfl ?_
   apply op_ld Hdr3.sc_41 rfl rfl
   ·exact rm
   ·rfl
   first | refine op_y (y_fld Hdr3.fo_44_6 rfl) rfl ?_ | refine op_y (y_flda Hdr3.fo_44_6 rfl) rfl ?_
   apply op_ld Hdr3.sc_41 rfl rfl
   ·exact rm
   ·rfl
   refine op_y (y_move rfl) rfl ?_
   refine op_y (y_addr (b := 28) a2 rfl rfl rfl rfl rfl ea2.symm (by show _ < 65536; omega)) rfl ?_
   refine op_y (y_subr (a := a2) (b := 20) a8 rfl rfl rfl rfl rfl (by omega) (by show _ < 65536; omega)) rfl ?_
   apply op_bslice Hdr3.sl_281 Hdr3.ze_41 rfl rfl rfl rfl rfl
   ·(first | ((try simp [fillL, splice, Value.cells, Nat.zero, Hdr.cs]) <;> rfl) | rfl)
   intro b72
   apply op_c Hdr3.ca_84 rfl rfl (fun e he_ => halves_ct e _ [h.sport, h.dport, a8, 0] [.int .u16 h.sport, .int .u16 h.dport, .int .u16 (a8 : Nat), .int .u16 0] rfl (by simp; omega) (by simp) 4 rfl)
   ·exact sx
   rintro _ _ ⟨rfl, rfl⟩ G_ hG_
   simp only [zn] at hG_; subst hG_
   rw [← htl]
   refine op_y (y_cat rfl rfl (by first | omega | (simp only [List.length_append, List.length_cons, List.length_nil, List.length_take, List.length_drop]; omega) | (simp; omega) | (simp; done))) rfl ?_
   refine op_y (y_move rfl) rfl ?_
   refine op_y (y_cat rfl rfl (by first | omega | (simp only [List.length_append, List.length_cons, List.length_nil, List.length_take, List.length_drop]; omega) | (simp; omega) | (simp; done))) rfl ?_
   refine op_y (y_assign rfl) rfl ?_
   refine op_y (y_assign rfl) rfl ?_
   refine op_nil ?_
   refine ent_then ?_
   refine cd_ret ?_
   refine ent_ret2 rfl rfl rfl ⟨_, ⟨rfl, rfl⟩, fun w h => h.nil_of⟩
end Go.Proofs.YtfkadaodnaaceaaGreatDoor
/- One rule that holds of all headers: the flow of each is its flow. -/
namespace Go.Proofs.YtfkadaodnaaceaaGreatDoor
open Go Go.SL
theorem Rules.ag_151 : aggK Tryz.prog 151 = some 2 := by kernel_rfl
theorem Rules.ar_373 : arrK Tryz.prog 373 = some (2, 372, 1) := by kernel_rfl
theorem Rules.ca_100 : callable Tryz.prog 100 = true := by kernel_rfl
theorem Rules.ca_138 : callable Tryz.prog 138 = true := by kernel_rfl
theorem Rules.ca_161 : callable Tryz.prog 161 = true := by kernel_rfl
theorem Rules.ca_223 : callable Tryz.prog 223 = true := by kernel_rfl
theorem Rules.fo_44_6 : fieldOff Tryz.prog 44 6 = some 6 := by kernel_rfl
theorem Rules.fo_151_0 : fieldOff Tryz.prog 151 0 = some 0 := by kernel_rfl
theorem Rules.fo_151_1 : fieldOff Tryz.prog 151 1 = some 1 := by kernel_rfl
theorem Rules.fo_226_2 : fieldOff Tryz.prog 226 2 = some 2 := by kernel_rfl
theorem Rules.fo_321_0 : fieldOff Tryz.prog 321 0 = some 0 := by kernel_rfl
theorem Rules.fo_375_0 : fieldOff Tryz.prog 375 0 = some 0 := by kernel_rfl
theorem Rules.fo_375_1 : fieldOff Tryz.prog 375 1 = some 2 := by kernel_rfl
theorem Rules.fo_375_2 : fieldOff Tryz.prog 375 2 = some 3 := by kernel_rfl
theorem Rules.fo_375_3 : fieldOff Tryz.prog 375 3 = some 4 := by kernel_rfl
theorem Rules.fo_377_0 : fieldOff Tryz.prog 377 0 = some 0 := by kernel_rfl
theorem Rules.sc_3 : scalarT Tryz.prog 3 = true := by kernel_rfl
theorem Rules.sc_4 : scalarT Tryz.prog 4 = true := by kernel_rfl
theorem Rules.sc_41 : scalarT Tryz.prog 41 = true := by kernel_rfl
theorem Rules.sc_42 : scalarT Tryz.prog 42 = true := by kernel_rfl
theorem Rules.sc_122 : scalarT Tryz.prog 122 = true := by kernel_rfl
theorem Rules.sc_222 : scalarT Tryz.prog 222 = true := by kernel_rfl
theorem Rules.sc_315 : scalarT Tryz.prog 315 = true := by kernel_rfl
theorem Rules.sc_372 : scalarT Tryz.prog 372 = true := by kernel_rfl
theorem Rules.sl_222 : sliceK Tryz.prog 222 = some (321, 2, 16) := by kernel_rfl
theorem Rules.sz_151 : sizeK Tryz.prog 151 = some 2 := by kernel_rfl
theorem Rules.un_3 : Tryz.prog.underlying 3 = some (.int .i64) := by kernel_rfl
theorem Rules.un_42 : Tryz.prog.underlying 42 = some (.int .u32) := by kernel_rfl
theorem Rules.un_219 : Tryz.prog.underlying 219 = some (.pointer 377) := by kernel_rfl
theorem Rules.un_372 : Tryz.prog.underlying 372 = some (.pointer 375) := by kernel_rfl
theorem Rules.ze_151 : zeroC Tryz.prog 151 = some [.int .u32 0, .int .i64 0] := by kernel_rfl
set_option maxRecDepth 100000
set_option maxHeartbeats 1000000
theorem mask0_ct (c : Cx) : Ct Tryz.prog 161 #[.int .i64 0] c [] fun v L => v = .int .u32 0 ∧ L = [] := by
 refine ct_fn (args := [.int .i64 0]) [(0, .int .i64 0)] Tryz.func161 rfl Tryz.ntmps161 rfl ⟨rfl, trivial⟩ ?_
 refine cd_seq ?_
 refine cd_region [0] ?_
 refine op_y (y_assign rfl) rfl ?_
 refine op_nil ?_
 refine ent_then ?_
 refine cd_seq ?_
 refine cd_region [0, 0, 0, 0, 0, 0] ?_
 refine op_y (y_move rfl) rfl ?_
 refine op_y (y_max (r := 0) rfl rfl rfl) rfl ?_
 refine op_y (y_min (r := 0) rfl rfl rfl) rfl ?_
 refine op_y (y_sub (r := 32) rfl rfl (by decide)) rfl ?_
 refine op_y (y_shl (r := 0) rfl rfl (by decide) (by decide)) rfl ?_
 refine op_y (y_assign rfl) rfl ?_
 refine op_nil ?_
 refine ent_then ?_
 refine cd_ret ?_
 refine ent_ret1 rfl rfl ⟨_, ⟨rfl, rfl⟩, fun w h => h⟩
abbrev pre0 : List Value := [.int .u32 0, .int .i64 0]
theorem right0_ct (c : Cx) : Ct Tryz.prog 100 #[.agg pre0.toArray] c [] fun v L => v = .bool true ∧ L = [] := by
 refine ct_fn (args := [.agg pre0.toArray]) [(0, .agg pre0.toArray)] Tryz.func100 rfl Tryz.ntmps100 rfl ⟨rfl, trivial⟩ ?_
 refine cd_seq ?_
 refine cd_region [2, 0] ?_
 refine op_boxa rfl rfl fun b1 => ?_
 refine op_y (y_assign rfl) rfl ?_
 refine op_nil ?_
 refine ent_then ?_
 refine cd_seq ?_
 refine cd_drawL [0, 1, 2, 3, 4, 5, 6, 7, 8, 9, 10, 11, 12, 13, 14, 15, 16, 17] [0, 1, 0, 0, 0, 1, 0, 0, 0, 0, 3, 0, 1, 4, 0, 0, 0, 0] mixed_ (by kernel_rfl) ?_
 first | refine op_y (y_fld Rules.fo_151_1 rfl) rfl ?_ | refine op_y (y_flda Rules.fo_151_1 rfl) rfl ?_
 apply op_ld Rules.sc_3 rfl rfl
 ·exact rm
 ·rfl
 first | refine op_y (y_ge rfl rfl (decide_eq_true (by omega))) rfl ?_ | refine op_y (y_ge rfl rfl (decide_eq_false (by omega))) rfl ?_ | refine op_y (y_ge rfl rfl rfl) rfl ?_
 refine op_y (y_move rfl) rfl ?_
 first
  | refine op_s1 rfl rfl ⟨rfl, rfl⟩ ?_
  | refine op_s2 rfl rfl ⟨rfl, rfl⟩ ?_
  | (refine op_g rfl rfl ?_
     first | refine op_y (y_fld Rules.fo_151_1 rfl) rfl ?_ | refine op_y (y_flda Rules.fo_151_1 rfl) rfl ?_)
 first
  | refine op_s1 rfl rfl ⟨rfl, rfl⟩ ?_
  | refine op_s2 rfl rfl ⟨rfl, rfl⟩ ?_
  | (refine op_g rfl rfl ?_
     apply op_ld Rules.sc_3 rfl rfl
     ·exact rm
     ·rfl)
 first
  | refine op_s1 rfl rfl ⟨rfl, rfl⟩ ?_
  | refine op_s2 rfl rfl ⟨rfl, rfl⟩ ?_
  | (refine op_g rfl rfl ?_
     first | refine op_y (y_le rfl rfl (decide_eq_true (by omega))) rfl ?_ | refine op_y (y_le rfl rfl (decide_eq_false (by omega))) rfl ?_ | refine op_y (y_le rfl rfl rfl) rfl ?_)
 first | refine op_y (y_pickt rfl rfl) rfl ?_ | refine op_y (y_pickf rfl rfl) rfl ?_ | refine op_y (y_pick rfl rfl rfl) rfl ?_
 refine op_y (y_move rfl) rfl ?_
 first
  | refine op_s1 rfl rfl ⟨rfl, rfl⟩ ?_
  | refine op_s2 rfl rfl ⟨rfl, rfl⟩ ?_
  | (refine op_g rfl rfl ?_
     first | refine op_y (y_fld0 Rules.fo_151_0 rfl) rfl ?_ | refine op_y (y_flda Rules.fo_151_0 rfl) rfl ?_)
 first
  | refine op_s rfl rfl (.inl rfl) rfl (.inr (by (first | exact fun w h => h | exact fun w h => h.drop | (intro w h; apply Sat.only (h := h); exact sx)))) ?_
  | refine op_s rfl rfl (.inr rfl) rfl (.inr (by (first | exact fun w h => h | exact fun w h => h.drop | (intro w h; apply Sat.only (h := h); exact sx)))) ?_
  | (refine op_g rfl rfl ?_
     apply op_lds Rules.sc_42 rfl rfl
     ·exact rm
     ·rfl
     ·(first | exact fun w h => h | exact fun w h => h.drop | (intro w h; apply Sat.only (h := h); exact sx)))
 first
  | refine op_s1 rfl rfl ⟨rfl, rfl⟩ ?_
  | refine op_s2 rfl rfl ⟨rfl, rfl⟩ ?_
  | (refine op_g rfl rfl ?_
     first | refine op_y (y_fld Rules.fo_151_1 rfl) rfl ?_ | refine op_y (y_flda Rules.fo_151_1 rfl) rfl ?_)
 first
  | refine op_s1 rfl rfl ⟨rfl, rfl⟩ ?_
  | refine op_s2 rfl rfl ⟨rfl, rfl⟩ ?_
  | (refine op_g rfl rfl ?_
     apply op_ld Rules.sc_3 rfl rfl
     ·exact rm
     ·rfl)
 refine op_g rfl rfl ?_
 apply op_c4 Rules.ca_161 rfl rfl (fun e he_ => mask0_ct e)
 ·exact sx
 rintro _ _ ⟨rfl, rfl⟩ G_ hG_
 simp only [zn] at hG_; subst hG_
 refine ⟨by (first | exact fun w h => h | exact fun w h => h.drop | (intro w h; apply Sat.only (h := h); exact sx)), ?_⟩
 refine op_g rfl rfl ?_
 refine op_y (y_andnot (r := 0) rfl rfl (by decide)) rfl ?_
 first
  | refine op_s1 rfl rfl ⟨rfl, rfl⟩ ?_
  | refine op_s2 rfl rfl ⟨rfl, rfl⟩ ?_
  | (refine op_g rfl rfl ?_
     first | refine op_y (y_eq rfl rfl (eqT (by omega))) rfl ?_ | refine op_y (y_eq rfl rfl (eqF (by omega))) rfl ?_ | refine op_y (y_eq rfl rfl rfl) rfl ?_)
 first | refine op_y (y_pickt rfl rfl) rfl ?_ | refine op_y (y_pickf rfl rfl) rfl ?_ | refine op_y (y_pick rfl rfl rfl) rfl ?_
 refine op_y (y_assign rfl) rfl ?_
 refine op_nil ?_
 refine ent_then ?_
 refine cd_ret ?_
 refine ent_ret1 rfl rfl ⟨_, ⟨rfl, rfl⟩, fun w h => h.drop⟩
theorem and0 (a : Int) : IntKind.u32.wrap ((BitVec.ofInt IntKind.u32.bits a &&& BitVec.ofInt IntKind.u32.bits 0).toNat : Int) = 0 := by
 have : (BitVec.ofInt IntKind.u32.bits a &&& BitVec.ofInt IntKind.u32.bits 0) = 0 := by simp
 rw [this]; rfl
theorem has0_ct (c : Cx) (a : Int) : Ct Tryz.prog 138 #[.agg pre0.toArray, .int .u32 a] c [] fun v L => v = .bool true ∧ L = [] := by
 refine ct_fn (args := [.agg pre0.toArray, .int .u32 a]) [(0, .agg pre0.toArray), (1, .int .u32 a)] Tryz.func138 rfl Tryz.ntmps138 rfl ⟨rfl, rfl, trivial⟩ ?_
 refine cd_seq ?_
 refine cd_region [2, 0] ?_
 refine op_boxa rfl rfl fun b2 => ?_
 refine op_y (y_assign rfl) rfl ?_
 refine op_nil ?_
 refine ent_then ?_
 refine cd_seq ?_
 refine cd_drawL [0, 1, 2, 3, 4, 5, 8, 9, 6, 7, 10, 11, 12] [1, 2, 0, 0, 0, 1, 0, 3, 4, 0, 0, 0, 0] mixed_ (by kernel_rfl) ?_
 apply op_lda Rules.ag_151 rfl rfl
 ·exact rm
 ·(first | ((try simp only [zz, splice, Nat.reduceAdd, Nat.zero_mul, Nat.zero, Hdr.cs]) <;> rfl) | rfl)
 ·rfl
 apply op_c Rules.ca_100 rfl rfl (fun e he_ => right0_ct e)
 ·exact sx
 rintro _ _ ⟨rfl, rfl⟩ G_ hG_
 simp only [zn] at hG_; subst hG_
 refine op_y (y_move rfl) rfl ?_
 first
  | refine op_s1 rfl rfl ⟨rfl, rfl⟩ ?_
  | refine op_s2 rfl rfl ⟨rfl, rfl⟩ ?_
  | (refine op_g rfl rfl ?_
     refine op_y (y_move rfl) rfl ?_)
 first
  | refine op_s1 rfl rfl ⟨rfl, rfl⟩ ?_
  | refine op_s2 rfl rfl ⟨rfl, rfl⟩ ?_
  | (refine op_g rfl rfl ?_
     first | refine op_y (y_fld Rules.fo_151_1 rfl) rfl ?_ | refine op_y (y_flda Rules.fo_151_1 rfl) rfl ?_)
 first
  | refine op_s1 rfl rfl ⟨rfl, rfl⟩ ?_
  | refine op_s2 rfl rfl ⟨rfl, rfl⟩ ?_
  | (refine op_g rfl rfl ?_
     apply op_ld Rules.sc_3 rfl rfl
     ·exact rm
     ·rfl)
 first
  | refine op_s1 rfl rfl ⟨rfl, rfl⟩ ?_
  | refine op_s2 rfl rfl ⟨rfl, rfl⟩ ?_
  | (refine op_g rfl rfl ?_
     first | refine op_y (y_fld0 Rules.fo_151_0 rfl) rfl ?_ | refine op_y (y_flda Rules.fo_151_0 rfl) rfl ?_)
 first
  | refine op_s rfl rfl (.inl rfl) rfl (.inr (by (first | exact fun w h => h | exact fun w h => h.drop | (intro w h; apply Sat.only (h := h); exact sx)))) ?_
  | refine op_s rfl rfl (.inr rfl) rfl (.inr (by (first | exact fun w h => h | exact fun w h => h.drop | (intro w h; apply Sat.only (h := h); exact sx)))) ?_
  | (refine op_g rfl rfl ?_
     apply op_lds Rules.sc_42 rfl rfl
     ·exact rm
     ·rfl
     ·(first | exact fun w h => h | exact fun w h => h.drop | (intro w h; apply Sat.only (h := h); exact sx)))
 refine op_g rfl rfl ?_
 apply op_c4 Rules.ca_161 rfl rfl (fun e he_ => mask0_ct e)
 ·exact sx
 rintro _ _ ⟨rfl, rfl⟩ G_ hG_
 simp only [zn] at hG_; subst hG_
 refine ⟨by (first | exact fun w h => h | exact fun w h => h.drop | (intro w h; apply Sat.only (h := h); exact sx)), ?_⟩
 refine op_g rfl rfl ?_
 refine op_y (y_and (r := 0) rfl rfl (and0 a)) rfl ?_
 first
  | refine op_s1 rfl rfl ⟨rfl, rfl⟩ ?_
  | refine op_s2 rfl rfl ⟨rfl, rfl⟩ ?_
  | (refine op_g rfl rfl ?_
     first | refine op_y (y_eq rfl rfl (eqT (by omega))) rfl ?_ | refine op_y (y_eq rfl rfl (eqF (by omega))) rfl ?_ | refine op_y (y_eq rfl rfl rfl) rfl ?_)
 first | refine op_y (y_pickt rfl rfl) rfl ?_ | refine op_y (y_pickf rfl rfl) rfl ?_ | refine op_y (y_pick rfl rfl rfl) rfl ?_
 refine op_y (y_assign rfl) rfl ?_
 refine op_nil ?_
 refine ent_then ?_
 refine cd_ret ?_
 refine ent_ret1 rfl rfl ⟨_, ⟨rfl, rfl⟩, fun w h => h.drop⟩
abbrev ncs (x : Nat) : List Value := [.int .u32 0, .int .i64 0, .bool true, .int .u64 x, .pointer none, .pointer none]
theorem side0_ct (c : Cx) (n x a j : Nat) (ha : a < 4294967296) (hj : a / 2147483648 % 2 = j) : Ct Tryz.prog 223 #[.pointer (some ⟨n, 0, none⟩), .int .u32 a] c [pt n 375 (ncs x)] fun v L => v = .int .i64 j ∧ L = [pt n 375 (ncs x)] := by
 refine ct_fn (args := [.pointer (some ⟨n, 0, none⟩), .int .u32 a]) [(0, .pointer (some ⟨n, 0, none⟩)), (1, .int .u32 a)] Tryz.func223 rfl Tryz.ntmps223 rfl ⟨rfl, rfl, trivial⟩ ?_
 have hj2 : j < 2 := hj ▸ Nat.mod_lt _ (by decide)
 refine cd_seq ?_
 refine cd_region [0] ?_
 refine op_y (y_assign rfl) rfl ?_
 refine op_nil ?_
 refine ent_then ?_
 refine cd_seq ?_
 refine cd_region [0, 0, 0, 0, 0, 1, 0, 0, 0, 0, 0] ?_
 refine op_y (y_move rfl) rfl ?_
 refine op_y (y_move rfl) rfl ?_
 first | refine op_y (y_nil rfl) rfl ?_ | refine op_y (y_nili rfl) rfl ?_ | refine op_y (y_nilf rfl) rfl ?_
 first | refine op_y (y_fld0 Rules.fo_375_0 rfl) rfl ?_ | refine op_y (y_flda Rules.fo_375_0 rfl) rfl ?_
 first | refine op_y (y_fld Rules.fo_151_1 rfl) rfl ?_ | refine op_y (y_flda Rules.fo_151_1 rfl) rfl ?_
 apply op_ld Rules.sc_3 rfl rfl
 ·exact rm
 ·rfl
 refine op_y (y_sub (r := 31) rfl rfl (by decide)) rfl ?_
 refine op_y (y_shrr (a := a) (b := 31) (a / 2147483648) rfl rfl rfl rfl (by decide) rfl) rfl ?_
 refine op_y (y_maskr (a := a / 2147483648) (m := 1) j rfl rfl rfl rfl rfl (by show _ < 4294967296; omega) (by decide) hj) rfl ?_
 first | refine op_y (y_conv Rules.un_42 Rules.un_3 rfl (wi64 (by omega) (by omega))) rfl ?_ | refine op_y (y_conv Rules.un_42 Rules.un_3 rfl rfl) rfl ?_
 refine op_y (y_assign rfl) rfl ?_
 refine op_nil ?_
 refine ent_then ?_
 refine cd_ret ?_
 refine ent_ret1 rfl rfl ⟨_, ⟨rfl, rfl⟩, fun w h => h⟩
/-- A table of one prefix, that has all addresses. -/
def trieI (t x : Nat) : As := fun h => ∃ n : Nat, sepL [pt t 377 [.pointer (some ⟨n, 0, none⟩), .int .i64 1], pt n 375 (ncs x)] h
theorem trieI_open {t x : Nat} {M : List As} {c : Cx} (w : World) (h : Sat (trieI t x :: M) c w) : ∃ n : Nat, True ∧ Sat (pt t 377 [.pointer (some ⟨n, 0, none⟩), .int .i64 1] :: pt n 375 (ncs x) :: M) c w := by
 obtain ⟨h1, ⟨x, hs⟩, d, k⟩ := h
 exact ⟨x, trivial, Sat.sepL_iff.1 ⟨h1, hs, d, k⟩⟩
theorem trieI_shut {t x : Nat} {M : List As} {c : Cx} {w : World} (n : Nat) (h : Sat (pt t 377 [.pointer (some ⟨n, 0, none⟩), .int .i64 1] :: pt n 375 (ncs x) :: M) c w) : Sat (trieI t x :: M) c w := by
 obtain ⟨h1, hs, d, k⟩ := Sat.sepL_iff.2 (show Sat ([_, _] ++ M) c w from h)
 exact ⟨h1, ⟨n, hs⟩, d, k⟩
theorem find0_ct (c : Cx) (t x a : Nat) (ha : a < 4294967296) : Ct Tryz.prog 201 #[.pointer (some ⟨t, 0, none⟩), .int .u32 a] c [trieI t x] fun v L => v = .tuple #[.agg pre0.toArray, .int .u64 x, .bool true] ∧ L = [trieI t x] := by
 refine ct_fn (args := [.pointer (some ⟨t, 0, none⟩), .int .u32 a]) [(0, .pointer (some ⟨t, 0, none⟩)), (1, .int .u32 a)] Tryz.func201 rfl Tryz.ntmps201 rfl ⟨rfl, rfl, trivial⟩ ?_
 refine cd_open trieI_open ?_
 rintro n -
 obtain ⟨j, hj⟩ : ∃ j, a / 2147483648 % 2 = j := ⟨_, rfl⟩
 have hj2 : j < 2 := hj ▸ Nat.mod_lt _ (by decide)
 have hk : (ncs x)[4 + j * 1]? = some (.pointer none) := by
  have : j = 0 ∨ j = 1 := by omega
  rcases this with rfl | rfl <;> rfl
 refine cd_seq ?_
 refine cd_region [2, 0, 0] ?_
 refine op_alloc Rules.ze_151 rfl fun b4 => ?_
 refine op_y (y_assign rfl) rfl ?_
 refine op_y (y_assign rfl) rfl ?_
 refine op_nil ?_
 refine ent_then ?_
 refine cd_seq ?_
 refine cd_region [2] ?_
 refine op_alloc Rules.ze_151 rfl fun b7 => ?_
 refine op_nil ?_
 refine ent_then ?_
 refine cd_seq ?_
 refine cd_region [0] ?_
 refine op_y (y_assign rfl) rfl ?_
 refine op_nil ?_
 refine ent_then ?_
 refine cd_seq ?_
 refine cd_region [0] ?_
 refine op_y (y_assign rfl) rfl ?_
 refine op_nil ?_
 refine ent_then ?_
 refine cd_seq ?_
 refine cd_seq ?_
 refine cd_region [0, 0] ?_
 refine op_y (y_move rfl) rfl ?_
 first | refine op_y (y_peq (r := false) Rules.un_219 rfl rfl) rfl ?_ | refine op_y (y_peq (r := true) Rules.un_219 rfl rfl) rfl ?_ | refine op_y (y_peq Rules.un_219 rfl rfl) rfl ?_
 refine op_nil ?_
 refine ent_then ?_
 refine cd_iff rfl ?_
 refine cd_skip ?_
 refine ent_then ?_
 refine cd_seq ?_
 refine cd_seq ?_
 refine cd_region [0, 0, 0, 1, 0] ?_
 refine op_y (y_move rfl) rfl ?_
 first | refine op_y (y_nil rfl) rfl ?_ | refine op_y (y_nili rfl) rfl ?_ | refine op_y (y_nilf rfl) rfl ?_
 first | refine op_y (y_fld0 Rules.fo_377_0 rfl) rfl ?_ | refine op_y (y_flda Rules.fo_377_0 rfl) rfl ?_
 apply op_ld Rules.sc_372 rfl rfl
 ·exact rm
 ·rfl
 refine op_y (y_assign rfl) rfl ?_
 refine op_nil ?_
 refine ent_then ?_
 refine cd_block ?_
 refine cd_rounds 1 ?_
 refine cd_seq ?_
 refine cd_seq ?_
 refine cd_region [0, 0, 0, 0, 0, 0, 1, 0, 2, 0] ?_
 refine op_y (y_move rfl) rfl ?_
 first | refine op_y (y_pne (r := false) Rules.un_372 rfl rfl) rfl ?_ | refine op_y (y_pne (r := true) Rules.un_372 rfl rfl) rfl ?_ | refine op_y (y_pne Rules.un_372 rfl rfl) rfl ?_
 refine op_y (y_move rfl) rfl ?_
 first
  | refine op_s1 rfl rfl ⟨rfl, rfl⟩ ?_
  | refine op_s2 rfl rfl ⟨rfl, rfl⟩ ?_
  | (refine op_g rfl rfl ?_
     refine op_y (y_move rfl) rfl ?_)
 first
  | refine op_s1 rfl rfl ⟨rfl, rfl⟩ ?_
  | refine op_s2 rfl rfl ⟨rfl, rfl⟩ ?_
  | (refine op_g rfl rfl ?_
     first | refine op_y (y_nil rfl) rfl ?_ | refine op_y (y_nili rfl) rfl ?_ | refine op_y (y_nilf rfl) rfl ?_)
 first
  | refine op_s1 rfl rfl ⟨rfl, rfl⟩ ?_
  | refine op_s2 rfl rfl ⟨rfl, rfl⟩ ?_
  | (refine op_g rfl rfl ?_
     first | refine op_y (y_fld0 Rules.fo_375_0 rfl) rfl ?_ | refine op_y (y_flda Rules.fo_375_0 rfl) rfl ?_)
 first
  | refine op_s1 rfl rfl ⟨rfl, rfl⟩ ?_
  | refine op_s2 rfl rfl ⟨rfl, rfl⟩ ?_
  | (refine op_g rfl rfl ?_
     apply op_lda Rules.ag_151 rfl rfl
     ·exact rm
     ·(first | ((try simp only [zz, splice, Nat.reduceAdd, Nat.zero_mul, Nat.zero, Hdr.cs, ncs, pre0]) <;> rfl) | rfl)
     ·rfl)
 first
  | refine op_s1 rfl rfl ⟨rfl, rfl⟩ ?_
  | refine op_s2 rfl rfl ⟨rfl, rfl⟩ ?_
  | (refine op_g rfl rfl ?_
     refine op_y (y_move rfl) rfl ?_)
 refine op_g rfl rfl ?_
 apply op_c Rules.ca_138 rfl rfl (fun e he_ => has0_ct e a)
 ·exact sx
 rintro _ _ ⟨rfl, rfl⟩ G_ hG_
 simp only [zn] at hG_; subst hG_
 first | refine op_y (y_pickt rfl rfl) rfl ?_ | refine op_y (y_pickf rfl rfl) rfl ?_ | refine op_y (y_pick rfl rfl rfl) rfl ?_
 refine op_nil ?_
 refine ent_then ?_
 refine cd_ift rfl ?_
 refine cd_skip ?_
 refine ent_then ?_
 refine cd_seq ?_
 refine cd_block ?_
 refine cd_seq ?_
 refine cd_seq ?_
 refine cd_region [0, 0, 0, 1] ?_
 refine op_y (y_move rfl) rfl ?_
 first | refine op_y (y_nil rfl) rfl ?_ | refine op_y (y_nili rfl) rfl ?_ | refine op_y (y_nilf rfl) rfl ?_
 first | refine op_y (y_fld Rules.fo_375_1 rfl) rfl ?_ | refine op_y (y_flda Rules.fo_375_1 rfl) rfl ?_
 apply op_ld Rules.sc_4 rfl rfl
 ·exact rm
 ·rfl
 refine op_nil ?_
 refine ent_then ?_
 refine cd_ift rfl ?_
 refine cd_draw ([pt n 375 (ncs x)]) [0, 1, 2, 3, 4, 5, 6, 7, 8, 9, 10] [0, 0, 0, 1, 0, 0, 0, 3, 4, 0, 0] mixed_ (by kernel_rfl) ?_
 refine op_y (y_move rfl) rfl ?_
 first | refine op_y (y_nil rfl) rfl ?_ | refine op_y (y_nili rfl) rfl ?_ | refine op_y (y_nilf rfl) rfl ?_
 first | refine op_y (y_fld0 Rules.fo_375_0 rfl) rfl ?_ | refine op_y (y_flda Rules.fo_375_0 rfl) rfl ?_
 apply op_lda Rules.ag_151 rfl rfl
 ·exact rm
 ·(first | ((try simp only [zz, splice, Nat.reduceAdd, Nat.zero_mul, Nat.zero, Hdr.cs, ncs, pre0]) <;> rfl) | rfl)
 ·rfl
 refine op_y (y_move rfl) rfl ?_
 first | refine op_y (y_nil rfl) rfl ?_ | refine op_y (y_nili rfl) rfl ?_ | refine op_y (y_nilf rfl) rfl ?_
 first | refine op_y (y_fld Rules.fo_375_2 rfl) rfl ?_ | refine op_y (y_flda Rules.fo_375_2 rfl) rfl ?_
 apply op_lds Rules.sc_315 rfl rfl
 ·exact rm
 ·rfl
 ·(first | exact fun w h => h | exact fun w h => h.drop | (intro w h; apply Sat.only (h := h); exact sx))
 apply op_sta4 Rules.sz_151 rfl rfl rfl rfl
 ·exact rm
 ·simp
 ·(first | ((try simp only [zz, splice, Nat.reduceAdd, Nat.zero_mul, Nat.zero, Hdr.cs, ncs, pre0]) <;> rfl) | rfl)
 ·(first | exact fun w h => h | exact fun w h => h.drop | (intro w h; apply Sat.only (h := h); exact sx))
 refine op_y (y_assign rfl) rfl ?_
 refine op_y (y_assign rfl) rfl ?_
 refine op_nil ?_
 refine ent_then ?_
 refine cd_seq ?_
 refine cd_region [0, 0, 0, 0, 1, 0] ?_
 refine op_y (y_move rfl) rfl ?_
 first | refine op_y (y_nil rfl) rfl ?_ | refine op_y (y_nili rfl) rfl ?_ | refine op_y (y_nilf rfl) rfl ?_
 first | refine op_y (y_fld0 Rules.fo_375_0 rfl) rfl ?_ | refine op_y (y_flda Rules.fo_375_0 rfl) rfl ?_
 first | refine op_y (y_fld Rules.fo_151_1 rfl) rfl ?_ | refine op_y (y_flda Rules.fo_151_1 rfl) rfl ?_
 apply op_ld Rules.sc_3 rfl rfl
 ·exact rm
 ·rfl
 first | refine op_y (y_eq rfl rfl (eqT (by omega))) rfl ?_ | refine op_y (y_eq rfl rfl (eqF (by omega))) rfl ?_ | refine op_y (y_eq rfl rfl rfl) rfl ?_
 refine op_nil ?_
 refine ent_then ?_
 refine cd_iff rfl ?_
 refine cd_skip ?_
 refine ent_block ?_
 refine ent_then ?_
 refine cd_draw ([]) [0, 1, 2, 4, 5, 3, 6, 7, 8] [0, 0, 0, 0, 0, 2, 0, 1, 0] mixed_ (by kernel_rfl) ?_
 refine op_y (y_move rfl) rfl ?_
 refine op_y (y_move rfl) rfl ?_
 refine op_y (y_move rfl) rfl ?_
 first | refine op_y (y_nil rfl) rfl ?_ | refine op_y (y_nili rfl) rfl ?_ | refine op_y (y_nilf rfl) rfl ?_
 first | refine op_y (y_fld Rules.fo_375_3 rfl) rfl ?_ | refine op_y (y_flda Rules.fo_375_3 rfl) rfl ?_
 apply op_c Rules.ca_223 rfl rfl (fun e he_ => side0_ct e n x a j ha hj)
 ·exact sx
 rintro _ _ ⟨rfl, rfl⟩ G_ hG_
 simp only [zn] at hG_; subst hG_
 refine op_y (y_ixv (j := j) Rules.ar_373 rfl rfl (by omega) (by omega)) rfl ?_
 apply op_ld Rules.sc_372 rfl rfl
 ·exact rm
 ·exact hk
 refine op_y (y_assign rfl) rfl ?_
 refine op_nil ?_
 refine ent_round ?_
 refine cd_seq ?_
 refine cd_seq ?_
 refine cd_region [0, 0, 0, 0, 0, 0, 1, 0, 2, 0] ?_
 refine op_y (y_move rfl) rfl ?_
 first | refine op_y (y_pne (r := false) Rules.un_372 rfl rfl) rfl ?_ | refine op_y (y_pne (r := true) Rules.un_372 rfl rfl) rfl ?_ | refine op_y (y_pne Rules.un_372 rfl rfl) rfl ?_
 refine op_y (y_move rfl) rfl ?_
 first
  | refine op_s1 rfl rfl ⟨rfl, rfl⟩ ?_
  | refine op_s2 rfl rfl ⟨rfl, rfl⟩ ?_
  | (refine op_g rfl rfl ?_
     refine op_y (y_move rfl) rfl ?_)
 first
  | refine op_s1 rfl rfl ⟨rfl, rfl⟩ ?_
  | refine op_s2 rfl rfl ⟨rfl, rfl⟩ ?_
  | (refine op_g rfl rfl ?_
     first | refine op_y (y_nil rfl) rfl ?_ | refine op_y (y_nili rfl) rfl ?_ | refine op_y (y_nilf rfl) rfl ?_)
 first
  | refine op_s1 rfl rfl ⟨rfl, rfl⟩ ?_
  | refine op_s2 rfl rfl ⟨rfl, rfl⟩ ?_
  | (refine op_g rfl rfl ?_
     first | refine op_y (y_fld0 Rules.fo_375_0 rfl) rfl ?_ | refine op_y (y_flda Rules.fo_375_0 rfl) rfl ?_)
 first
  | refine op_s1 rfl rfl ⟨rfl, rfl⟩ ?_
  | refine op_s2 rfl rfl ⟨rfl, rfl⟩ ?_
  | (refine op_g rfl rfl ?_
     apply op_lda Rules.ag_151 rfl rfl
     ·exact rm
     ·(first | ((try simp only [zz, splice, Nat.reduceAdd, Nat.zero_mul, Nat.zero, Hdr.cs, ncs, pre0]) <;> rfl) | rfl)
     ·rfl)
 first
  | refine op_s1 rfl rfl ⟨rfl, rfl⟩ ?_
  | refine op_s2 rfl rfl ⟨rfl, rfl⟩ ?_
  | (refine op_g rfl rfl ?_
     refine op_y (y_move rfl) rfl ?_)
 first | refine op_s1 rfl rfl ⟨rfl, rfl⟩ ?_ | refine op_s2 rfl rfl ⟨rfl, rfl⟩ ?_
 first | refine op_y (y_pickt rfl rfl) rfl ?_ | refine op_y (y_pickf rfl rfl) rfl ?_ | refine op_y (y_pick rfl rfl rfl) rfl ?_
 refine op_nil ?_
 refine ent_then ?_
 refine cd_iff rfl ?_
 refine cd_exit ?_
 refine ent_thn_exit ?_
 refine ent_then_exit ?_
 refine ent_block_exit ?_
 refine ent_then ?_
 refine cd_seq ?_
 refine cd_region [1, 0, 0, 2, 0, 0] ?_
 apply op_lda Rules.ag_151 rfl rfl
 ·exact rm
 ·(first | ((try simp only [zz, splice, Nat.reduceAdd, Nat.zero_mul, Nat.zero, Hdr.cs, ncs, pre0]) <;> rfl) | rfl)
 ·rfl
 refine op_y (y_move rfl) rfl ?_
 refine op_y (y_move rfl) rfl ?_
 apply op_sta Rules.sz_151 rfl rfl rfl rfl
 ·exact rm
 ·simp
 ·(first | ((try simp only [zz, splice, Nat.reduceAdd, Nat.zero_mul, Nat.zero, Hdr.cs, ncs, pre0]) <;> rfl) | rfl)
 refine op_y (y_assign rfl) rfl ?_
 refine op_y (y_assign rfl) rfl ?_
 refine op_nil ?_
 refine ent_then ?_
 refine cd_ret ?_
 refine ent_rets (rs := [_, _, _]) (vs := [.agg pre0.toArray, .int .u64 x, .bool true]) (.inl rfl) rfl ⟨⟨_, rfl, .inr ⟨_, 2, rfl, rfl, rds_all (by exact rm), rfl⟩⟩, rfl, rfl, trivial⟩ ⟨_, ⟨rfl, rfl⟩, fun w h => trieI_shut n ?_⟩
 apply Sat.only (h := h)
 exact sx
structure RZ where
 ts : Nat
 td : Nat
 b1 : Nat
 c1 : Nat
 r1 : List Value
 b2 : Nat
 c2 : Nat
 r2 : List Value
abbrev rcs (x : RZ) : List Value := [.pointer (some ⟨x.ts, 0, none⟩), .pointer (some ⟨x.td, 0, none⟩), .slice (some ⟨x.b1, 0, none⟩) 1 x.c1, .slice (some ⟨x.b2, 0, none⟩) 1 x.c2]
/-- A table of the one rule, at block t. -/
def rulesI (t : Nat) : As := fun h => ∃ x : RZ, sepL [pt t 226 (rcs x), trieI x.ts 1, trieI x.td 1, pt x.b1 321 (.int .u16 0 :: .int .u64 1 :: x.r1), pt x.b2 42 (.int .u32 1 :: x.r2)] h
theorem rulesI_open {t : Nat} {M : List As} {c : Cx} (w : World) (h : Sat (rulesI t :: M) c w) : ∃ x : RZ, True ∧ Sat (pt t 226 (rcs x) :: trieI x.ts 1 :: trieI x.td 1 :: pt x.b1 321 (.int .u16 0 :: .int .u64 1 :: x.r1) :: pt x.b2 42 (.int .u32 1 :: x.r2) :: M) c w := by
 obtain ⟨h1, ⟨x, hs⟩, d, k⟩ := h
 exact ⟨x, trivial, Sat.sepL_iff.1 ⟨h1, hs, d, k⟩⟩
theorem rulesI_shut {t : Nat} {M : List As} {c : Cx} {w : World} (x : RZ) (h : Sat (pt t 226 (rcs x) :: trieI x.ts 1 :: trieI x.td 1 :: pt x.b1 321 (.int .u16 0 :: .int .u64 1 :: x.r1) :: pt x.b2 42 (.int .u32 1 :: x.r2) :: M) c w) : Sat (rulesI t :: M) c w := by
 obtain ⟨h1, hs, d, k⟩ := Sat.sepL_iff.2 (show Sat ([_, _, _, _, _] ++ M) c w from h)
 exact ⟨h1, ⟨x, hs⟩, d, k⟩
theorem hfn_ct (c : Cx) (b2 b3 t b1 c1 ts td bb2 cc2 : Nat) (r1 : List Value) (h : Hdr) :
 Ct Tryz.prog 203 #[.int .i64 0, .pointer (some ⟨b2, 0, none⟩), .pointer (some ⟨b3, 0, none⟩)] c [pt b2 122 [.pointer (some ⟨t, 0, none⟩)], pt b3 44 (Hdr.cs h), pt t 226 [.pointer (some ⟨ts, 0, none⟩), .pointer (some ⟨td, 0, none⟩), .slice (some ⟨b1, 0, none⟩) 1 c1, .slice (some ⟨bb2, 0, none⟩) 1 cc2], pt b1 321 (.int .u16 0 :: .int .u64 1 :: r1)]
  fun v L => v = .bool false ∧ L = [pt b2 122 [.pointer (some ⟨t, 0, none⟩)], pt b3 44 (Hdr.cs h), pt t 226 [.pointer (some ⟨ts, 0, none⟩), .pointer (some ⟨td, 0, none⟩), .slice (some ⟨b1, 0, none⟩) 1 c1, .slice (some ⟨bb2, 0, none⟩) 1 cc2], pt b1 321 (.int .u16 0 :: .int .u64 1 :: r1)] := by
 refine ct_fn (args := [.int .i64 0, .pointer (some ⟨b2, 0, none⟩), .pointer (some ⟨b3, 0, none⟩)]) [(0, .int .i64 0), (1, .pointer (some ⟨b2, 0, none⟩)), (2, .pointer (some ⟨b3, 0, none⟩))] Tryz.func203 rfl Tryz.ntmps203 rfl ⟨rfl, rfl, rfl, trivial⟩ ?_
 refine cd_seq ?_
 refine cd_region [0] ?_
 refine op_y (y_assign rfl) rfl ?_
 refine op_nil ?_
 refine ent_then ?_
 refine cd_seq ?_
 refine cd_draw ([]) [0, 1, 2, 3, 4, 5, 6, 7, 8, 9, 10, 11] [1, 0, 0, 1, 0, 0, 0, 1, 0, 1, 0, 0] mixed_ (by kernel_rfl) ?_
 apply op_ld Rules.sc_122 rfl rfl
 ·exact rm
 ·rfl
 first | refine op_y (y_nil rfl) rfl ?_ | refine op_y (y_nili rfl) rfl ?_ | refine op_y (y_nilf rfl) rfl ?_
 first | refine op_y (y_fld Rules.fo_226_2 rfl) rfl ?_ | refine op_y (y_flda Rules.fo_226_2 rfl) rfl ?_
 apply op_ld Rules.sc_222 rfl rfl
 ·exact rm
 ·rfl
 refine op_y (y_move rfl) rfl ?_
 first | refine op_y (y_ix0 (j := 0) Rules.sl_222 rfl rfl (by omega) (by omega)) rfl ?_ | refine op_y (y_ix (j := 0) Rules.sl_222 rfl rfl (by omega) (by omega)) rfl ?_ | refine op_y (y_ixa (j := 0) Rules.sl_222 rfl rfl (by omega) (by omega)) rfl ?_
 first | refine op_y (y_fld0 Rules.fo_321_0 rfl) rfl ?_ | refine op_y (y_flda Rules.fo_321_0 rfl) rfl ?_
 apply op_ld Rules.sc_41 rfl rfl
 ·exact rm
 ·rfl
 first | refine op_y (y_fld Rules.fo_44_6 rfl) rfl ?_ | refine op_y (y_flda Rules.fo_44_6 rfl) rfl ?_
 apply op_ld Rules.sc_41 rfl rfl
 ·exact rm
 ·rfl
 first | refine op_y (y_gt rfl rfl (decide_eq_true (by omega))) rfl ?_ | refine op_y (y_gt rfl rfl (decide_eq_false (by omega))) rfl ?_ | refine op_y (y_gt rfl rfl rfl) rfl ?_
 refine op_y (y_assign rfl) rfl ?_
 refine op_nil ?_
 refine ent_then ?_
 refine cd_ret ?_
 refine ent_ret1 rfl rfl ⟨_, ⟨rfl, rfl⟩, fun w h => h⟩
end Go.Proofs.YtfkadaodnaaceaaGreatDoor
/- One rule that holds of all headers: what is found. -/
namespace Go.Proofs.YtfkadaodnaaceaaGreatDoor
open Go Go.SL
theorem Rules2.ag_44 : aggK Tryz.prog 44 = some 7 := by kernel_rfl
theorem Rules2.ca_104 : callable Tryz.prog 104 = true := by kernel_rfl
theorem Rules2.ca_162 : callable Tryz.prog 162 = true := by kernel_rfl
theorem Rules2.ca_163 : callable Tryz.prog 163 = true := by kernel_rfl
theorem Rules2.ca_164 : callable Tryz.prog 164 = true := by kernel_rfl
theorem Rules2.ca_201 : callable Tryz.prog 201 = true := by kernel_rfl
theorem Rules2.ca_202 : callable Tryz.prog 202 = true := by kernel_rfl
theorem Rules2.ca_203 : callable Tryz.prog 203 = true := by kernel_rfl
theorem Rules2.fo_44_3 : fieldOff Tryz.prog 44 3 = some 3 := by kernel_rfl
theorem Rules2.fo_44_4 : fieldOff Tryz.prog 44 4 = some 4 := by kernel_rfl
theorem Rules2.fo_226_0 : fieldOff Tryz.prog 226 0 = some 0 := by kernel_rfl
theorem Rules2.fo_226_1 : fieldOff Tryz.prog 226 1 = some 1 := by kernel_rfl
theorem Rules2.fo_226_2 : fieldOff Tryz.prog 226 2 = some 2 := by kernel_rfl
theorem Rules2.fo_226_3 : fieldOff Tryz.prog 226 3 = some 3 := by kernel_rfl
theorem Rules2.fo_321_1 : fieldOff Tryz.prog 321 1 = some 1 := by kernel_rfl
theorem Rules2.sc_42 : scalarT Tryz.prog 42 = true := by kernel_rfl
theorem Rules2.sc_122 : scalarT Tryz.prog 122 = true := by kernel_rfl
theorem Rules2.sc_219 : scalarT Tryz.prog 219 = true := by kernel_rfl
theorem Rules2.sc_222 : scalarT Tryz.prog 222 = true := by kernel_rfl
theorem Rules2.sc_224 : scalarT Tryz.prog 224 = true := by kernel_rfl
theorem Rules2.sc_315 : scalarT Tryz.prog 315 = true := by kernel_rfl
theorem Rules2.sl_222 : sliceK Tryz.prog 222 = some (321, 2, 16) := by kernel_rfl
theorem Rules2.sl_224 : sliceK Tryz.prog 224 = some (42, 1, 4) := by kernel_rfl
theorem Rules2.sz_151 : sizeK Tryz.prog 151 = some 2 := by kernel_rfl
theorem Rules2.un_3 : Tryz.prog.underlying 3 = some (.int .i64) := by kernel_rfl
theorem Rules2.un_122 : Tryz.prog.underlying 122 = some (.pointer 226) := by kernel_rfl
theorem Rules2.un_201 : Tryz.prog.underlying 201 = some (.int .u64) := by kernel_rfl
theorem Rules2.un_222 : Tryz.prog.underlying 222 = some (.slice 321) := by kernel_rfl
theorem Rules2.un_224 : Tryz.prog.underlying 224 = some (.slice 42) := by kernel_rfl
theorem Rules2.ze_151 : zeroC Tryz.prog 151 = some [.int .u32 0, .int .i64 0] := by kernel_rfl
set_option maxRecDepth 100000
set_option maxHeartbeats 1000000
theorem search_ct (c : Cx) (b2 b3 t b1 c1 ts td bb c2 : Nat) (r1 : List Value) (h : Hdr) :
 Ct Tryz.prog 202 #[.int .i64 1, .func (.func 203) #[] #[.pointer (some ⟨b2, 0, none⟩), .pointer (some ⟨b3, 0, none⟩)]] c [pt b2 122 [.pointer (some ⟨t, 0, none⟩)], pt b3 44 (Hdr.cs h), pt t 226 [.pointer (some ⟨ts, 0, none⟩), .pointer (some ⟨td, 0, none⟩), .slice (some ⟨b1, 0, none⟩) 1 c1, .slice (some ⟨bb, 0, none⟩) 1 c2], pt b1 321 (.int .u16 0 :: .int .u64 1 :: r1)]
  fun v L => v = .int .i64 1 ∧ L = [pt b2 122 [.pointer (some ⟨t, 0, none⟩)], pt b3 44 (Hdr.cs h), pt t 226 [.pointer (some ⟨ts, 0, none⟩), .pointer (some ⟨td, 0, none⟩), .slice (some ⟨b1, 0, none⟩) 1 c1, .slice (some ⟨bb, 0, none⟩) 1 c2], pt b1 321 (.int .u16 0 :: .int .u64 1 :: r1)] := by
 refine ct_fn (args := [.int .i64 1, .func (.func 203) #[] #[.pointer (some ⟨b2, 0, none⟩), .pointer (some ⟨b3, 0, none⟩)]]) [(0, .int .i64 1), (1, .func (.func 203) #[] #[.pointer (some ⟨b2, 0, none⟩), .pointer (some ⟨b3, 0, none⟩)])] Tryz.func202 rfl Tryz.ntmps202 rfl ⟨rfl, rfl, trivial⟩ ?_
 refine cd_seq ?_
 refine cd_region [0] ?_
 refine op_y (y_assign rfl) rfl ?_
 refine op_nil ?_
 refine ent_then ?_
 refine cd_seq ?_
 refine cd_region [0, 0, 0] ?_
 refine op_y (y_move rfl) rfl ?_
 refine op_y (y_assign rfl) rfl ?_
 refine op_y (y_assign rfl) rfl ?_
 refine op_nil ?_
 refine ent_then ?_
 refine cd_seq ?_
 refine cd_block ?_
 refine cd_rounds 1 ?_
 refine cd_seq ?_
 refine cd_seq ?_
 refine cd_region [0, 0, 0] ?_
 refine op_y (y_move rfl) rfl ?_
 refine op_y (y_move rfl) rfl ?_
 first | refine op_y (y_lt rfl rfl (decide_eq_true (by omega))) rfl ?_ | refine op_y (y_lt rfl rfl (decide_eq_false (by omega))) rfl ?_ | refine op_y (y_lt rfl rfl rfl) rfl ?_
 refine op_nil ?_
 refine ent_then ?_
 refine cd_ift rfl ?_
 refine cd_skip ?_
 refine ent_then ?_
 refine cd_block ?_
 refine cd_seq ?_
 refine cd_region [0, 0, 0, 0, 0, 0, 0] ?_
 refine op_y (y_move rfl) rfl ?_
 refine op_y (y_move rfl) rfl ?_
 refine op_y (y_add (r := 1) rfl rfl (by decide)) rfl ?_
 refine op_y (y_conv (r := 1) Rules2.un_3 Rules2.un_201 rfl (by decide)) rfl ?_
 refine op_y (y_shr (r := 0) rfl rfl (by decide) (by decide)) rfl ?_
 refine op_y (y_conv (r := 0) Rules2.un_201 Rules2.un_3 rfl (by decide)) rfl ?_
 refine op_y (y_assign rfl) rfl ?_
 refine op_nil ?_
 refine ent_then ?_
 refine cd_seq ?_
 refine cd_region [0, 0, 2, 0] ?_
 refine op_y (y_move rfl) rfl ?_
 refine op_y (y_move rfl) rfl ?_
 apply op_cv (f := 203) (vs := [_]) (cap := [_, _]) Rules2.ca_203 rfl rfl rfl rfl (fun e he_ => hfn_ct e b2 b3 t b1 c1 ts td bb c2 r1 h)
 ·exact sx
 rintro _ _ ⟨rfl, rfl⟩ G_ hG_
 simp only [zn] at hG_; subst hG_
 first | refine op_y (y_not (b := true) (r := false) rfl rfl) rfl ?_ | refine op_y (y_not (b := false) (r := true) rfl rfl) rfl ?_ | refine op_y (y_not rfl rfl) rfl ?_
 refine op_nil ?_
 refine ent_then ?_
 refine cd_ift rfl ?_
 refine cd_region [0, 0, 0] ?_
 refine op_y (y_move rfl) rfl ?_
 refine op_y (y_add (r := 1) rfl rfl (by decide)) rfl ?_
 refine op_y (y_assign rfl) rfl ?_
 refine op_nil ?_
 refine ent_block ?_
 refine ent_round ?_
 refine cd_seq ?_
 refine cd_seq ?_
 refine cd_region [0, 0, 0] ?_
 refine op_y (y_move rfl) rfl ?_
 refine op_y (y_move rfl) rfl ?_
 first | refine op_y (y_lt rfl rfl (decide_eq_true (by omega))) rfl ?_ | refine op_y (y_lt rfl rfl (decide_eq_false (by omega))) rfl ?_ | refine op_y (y_lt rfl rfl rfl) rfl ?_
 refine op_nil ?_
 refine ent_then ?_
 refine cd_iff rfl ?_
 refine cd_exit ?_
 refine ent_thn_exit ?_
 refine ent_then_exit ?_
 refine ent_block_exit ?_
 refine ent_then ?_
 refine cd_seq ?_
 refine cd_region [0, 0] ?_
 refine op_y (y_move rfl) rfl ?_
 refine op_y (y_assign rfl) rfl ?_
 refine op_nil ?_
 refine ent_then ?_
 refine cd_ret ?_
 refine ent_ret1 rfl rfl ⟨_, ⟨rfl, rfl⟩, fun w h => ?_⟩
 apply Sat.only (h := h)
 exact sx
theorem hold_ct (c : Cx) (t : Nat) (h : Hdr) (hk : h.ok) : Ct Tryz.prog 163 #[.pointer (some ⟨t, 0, none⟩), .agg (Hdr.cs h).toArray] c [rulesI t] fun v L => v = .int .u64 1 ∧ L = [rulesI t] := by
 refine ct_fn (args := [.pointer (some ⟨t, 0, none⟩), .agg (Hdr.cs h).toArray]) [(0, .pointer (some ⟨t, 0, none⟩)), (1, .agg (Hdr.cs h).toArray)] Tryz.func163 rfl Tryz.ntmps163 rfl ⟨rfl, rfl, trivial⟩ ?_
 refine cd_open rulesI_open ?_
 rintro ⟨ts, td, b1, c1, r1, bb, c2, r2⟩ -
 simp only []
 refine cd_seq ?_
 refine cd_region [2, 2, 0] ?_
 refine op_box1 rfl rfl rfl fun b2 => ?_
 refine op_boxa rfl rfl fun b3 => ?_
 refine op_y (y_assign rfl) rfl ?_
 refine op_nil ?_
 refine ent_then ?_
 refine cd_cut (α := Nat) (fun _ => True) (fun _ => [(2, .pointer (some ⟨b2, 0, none⟩)), (3, .pointer (some ⟨b3, 0, none⟩)), (6, .int .u64 (1 : Nat))]) (fun _ => [pt b2 122 [.pointer (some ⟨t, 0, none⟩)], pt b3 44 (Hdr.cs h), pt t 226 (rcs ⟨ts, td, b1, c1, r1, bb, c2, r2⟩), trieI ts 1, trieI td 1, pt b1 321 (.int .u16 0 :: .int .u64 1 :: r1), pt bb 42 (.int .u32 1 :: r2)]) ?_ ?_
 ·skip
  refine cd_drawA ([pt b2 122 [.pointer (some ⟨t, 0, none⟩)], pt b3 44 (Hdr.cs h), pt t 226 (rcs ⟨ts, td, b1, c1, r1, bb, c2, r2⟩)]) [0, 1, 2, 3, 4, 5, 6, 7, 8, 9, 10] 11 4 [12, 13, 14] [3, 0, 0, 3, 0, 3, 2, 0, 0, 0, 0] [2, 0, 0] mixed_ (by kernel_rfl) ?_
  apply opA_lds Rules2.sc_122 rfl rfl
  ·exact rm
  ·rfl
  ·(first | exact fun w h => h | exact fun w h => h.drop | (intro w h; apply Sat.only (h := h); exact sx))
  first | refine opA_y (y_nil rfl) rfl ?_ | refine opA_y (y_nili rfl) rfl ?_ | refine opA_y (y_nilf rfl) rfl ?_
  first | refine opA_y (y_fld0 Rules2.fo_226_0 rfl) rfl ?_ | refine opA_y (y_flda Rules2.fo_226_0 rfl) rfl ?_
  apply opA_lds Rules2.sc_219 rfl rfl
  ·exact rm
  ·rfl
  ·(first | exact fun w h => h | exact fun w h => h.drop | (intro w h; apply Sat.only (h := h); exact sx))
  first | refine opA_y (y_fld Rules2.fo_44_3 rfl) rfl ?_ | refine opA_y (y_flda Rules2.fo_44_3 rfl) rfl ?_
  apply opA_lds Rules2.sc_42 rfl rfl
  ·exact rm
  ·rfl
  ·(first | exact fun w h => h | exact fun w h => h.drop | (intro w h; apply Sat.only (h := h); exact sx))
  apply opA_c Rules2.ca_201 rfl rfl rfl (.inr rfl) (fun e he_ => find0_ct e ts 1 h.src hk.src)
  ·exact sx
  ·rintro _ _ ⟨rfl, rfl⟩ G_ hG_
   simp only [zn] at hG_; subst hG_
   refine opA_y (y_move rfl) rfl ?_
   first | refine opA_y (y_extl rfl rfl) rfl ?_ | refine opA_y (y_ext rfl rfl) rfl ?_
   first | refine opA_y (y_extl rfl rfl) rfl ?_ | refine opA_y (y_ext rfl rfl) rfl ?_
   first | refine opA_y (y_extl rfl rfl) rfl ?_ | refine opA_y (y_ext rfl rfl) rfl ?_
   refine opA_nil ?_
   refine op_alloc4 Rules2.ze_151 rfl (by (first | exact fun w h => h | exact fun w h => h.drop | (intro w h; apply Sat.only (h := h); exact sx))) fun b5 => ?_
   apply op_sta Rules2.sz_151 rfl rfl rfl rfl
   ·exact rm
   ·simp
   ·(first | ((try simp only [zz, splice, Nat.reduceAdd, Nat.zero_mul, Nat.zero, Hdr.cs, ncs, pre0, rcs]) <;> rfl) | rfl)
   refine op_y (y_assign rfl) rfl ?_
   refine op_y (y_assign rfl) rfl ?_
   refine op_nil ?_
   refine ent_join 0 trivial ⟨rfl, rfl, rfl, trivial⟩ fun w h => ?_
   apply Sat.only (h := h)
   exact sx
  ·skip
   refine op_alloc4 Rules2.ze_151 rfl (by (first | exact fun w h => h | exact fun w h => h.drop | (intro w h; apply Sat.only (h := h); exact sx))) fun b5 => ?_
   apply op_c Rules2.ca_201 rfl rfl (fun e he_ => find0_ct e ts 1 h.src hk.src)
   ·exact sx
   rintro _ _ ⟨rfl, rfl⟩ G_ hG_
   simp only [zn] at hG_; subst hG_
   refine op_y (y_move rfl) rfl ?_
   first | refine op_y (y_extl rfl rfl) rfl ?_ | refine op_y (y_ext rfl rfl) rfl ?_
   first | refine op_y (y_extl rfl rfl) rfl ?_ | refine op_y (y_ext rfl rfl) rfl ?_
   first | refine op_y (y_extl rfl rfl) rfl ?_ | refine op_y (y_ext rfl rfl) rfl ?_
   apply op_sta Rules2.sz_151 rfl rfl rfl rfl
   ·exact rm
   ·simp
   ·(first | ((try simp only [zz, splice, Nat.reduceAdd, Nat.zero_mul, Nat.zero, Hdr.cs, ncs, pre0, rcs]) <;> rfl) | rfl)
   refine op_y (y_assign rfl) rfl ?_
   refine op_y (y_assign rfl) rfl ?_
   refine op_nil ?_
   refine ent_join 0 trivial ⟨rfl, rfl, rfl, trivial⟩ fun w h => ?_
   apply Sat.only (h := h)
   exact sx
 skip
 rintro - -
 refine cd_cut (α := Nat) (fun _ => True) (fun _ => [(2, .pointer (some ⟨b2, 0, none⟩)), (3, .pointer (some ⟨b3, 0, none⟩)), (6, .int .u64 (1 : Nat)), (9, .int .u64 (1 : Nat))]) (fun _ => [pt b2 122 [.pointer (some ⟨t, 0, none⟩)], pt b3 44 (Hdr.cs h), pt t 226 (rcs ⟨ts, td, b1, c1, r1, bb, c2, r2⟩), trieI ts 1, trieI td 1, pt b1 321 (.int .u16 0 :: .int .u64 1 :: r1), pt bb 42 (.int .u32 1 :: r2)]) ?_ ?_
 ·skip
  refine cd_drawA ([pt b2 122 [.pointer (some ⟨t, 0, none⟩)], pt b3 44 (Hdr.cs h), pt t 226 (rcs ⟨ts, td, b1, c1, r1, bb, c2, r2⟩)]) [0, 1, 2, 3, 4, 5, 6, 7, 8, 9, 10] 11 4 [12, 13, 14] [3, 0, 0, 3, 0, 3, 2, 0, 0, 0, 0] [2, 0, 0] mixed_ (by kernel_rfl) ?_
  apply opA_lds Rules2.sc_122 rfl rfl
  ·exact rm
  ·rfl
  ·(first | exact fun w h => h | exact fun w h => h.drop | (intro w h; apply Sat.only (h := h); exact sx))
  first | refine opA_y (y_nil rfl) rfl ?_ | refine opA_y (y_nili rfl) rfl ?_ | refine opA_y (y_nilf rfl) rfl ?_
  first | refine opA_y (y_fld Rules2.fo_226_1 rfl) rfl ?_ | refine opA_y (y_flda Rules2.fo_226_1 rfl) rfl ?_
  apply opA_lds Rules2.sc_219 rfl rfl
  ·exact rm
  ·rfl
  ·(first | exact fun w h => h | exact fun w h => h.drop | (intro w h; apply Sat.only (h := h); exact sx))
  first | refine opA_y (y_fld Rules2.fo_44_4 rfl) rfl ?_ | refine opA_y (y_flda Rules2.fo_44_4 rfl) rfl ?_
  apply opA_lds Rules2.sc_42 rfl rfl
  ·exact rm
  ·rfl
  ·(first | exact fun w h => h | exact fun w h => h.drop | (intro w h; apply Sat.only (h := h); exact sx))
  apply opA_c Rules2.ca_201 rfl rfl rfl (.inr rfl) (fun e he_ => find0_ct e td 1 h.dst hk.dst)
  ·exact sx
  ·rintro _ _ ⟨rfl, rfl⟩ G_ hG_
   simp only [zn] at hG_; subst hG_
   refine opA_y (y_move rfl) rfl ?_
   first | refine opA_y (y_extl rfl rfl) rfl ?_ | refine opA_y (y_ext rfl rfl) rfl ?_
   first | refine opA_y (y_extl rfl rfl) rfl ?_ | refine opA_y (y_ext rfl rfl) rfl ?_
   first | refine opA_y (y_extl rfl rfl) rfl ?_ | refine opA_y (y_ext rfl rfl) rfl ?_
   refine opA_nil ?_
   refine op_alloc4 Rules2.ze_151 rfl (by (first | exact fun w h => h | exact fun w h => h.drop | (intro w h; apply Sat.only (h := h); exact sx))) fun b8 => ?_
   apply op_sta Rules2.sz_151 rfl rfl rfl rfl
   ·exact rm
   ·simp
   ·(first | ((try simp only [zz, splice, Nat.reduceAdd, Nat.zero_mul, Nat.zero, Hdr.cs, ncs, pre0, rcs]) <;> rfl) | rfl)
   refine op_y (y_assign rfl) rfl ?_
   refine op_y (y_assign rfl) rfl ?_
   refine op_nil ?_
   refine ent_join 0 trivial ⟨rfl, rfl, rfl, rfl, trivial⟩ fun w h => ?_
   apply Sat.only (h := h)
   exact sx
  ·skip
   refine op_alloc4 Rules2.ze_151 rfl (by (first | exact fun w h => h | exact fun w h => h.drop | (intro w h; apply Sat.only (h := h); exact sx))) fun b8 => ?_
   apply op_c Rules2.ca_201 rfl rfl (fun e he_ => find0_ct e td 1 h.dst hk.dst)
   ·exact sx
   rintro _ _ ⟨rfl, rfl⟩ G_ hG_
   simp only [zn] at hG_; subst hG_
   refine op_y (y_move rfl) rfl ?_
   first | refine op_y (y_extl rfl rfl) rfl ?_ | refine op_y (y_ext rfl rfl) rfl ?_
   first | refine op_y (y_extl rfl rfl) rfl ?_ | refine op_y (y_ext rfl rfl) rfl ?_
   first | refine op_y (y_extl rfl rfl) rfl ?_ | refine op_y (y_ext rfl rfl) rfl ?_
   apply op_sta Rules2.sz_151 rfl rfl rfl rfl
   ·exact rm
   ·simp
   ·(first | ((try simp only [zz, splice, Nat.reduceAdd, Nat.zero_mul, Nat.zero, Hdr.cs, ncs, pre0, rcs]) <;> rfl) | rfl)
   refine op_y (y_assign rfl) rfl ?_
   refine op_y (y_assign rfl) rfl ?_
   refine op_nil ?_
   refine ent_join 0 trivial ⟨rfl, rfl, rfl, rfl, trivial⟩ fun w h => ?_
   apply Sat.only (h := h)
   exact sx
 skip
 rintro - -
 refine cd_seq ?_
 refine cd_region [1, 0, 0, 1, 0, 0, 2, 0] ?_
 apply op_ld Rules2.sc_122 rfl rfl
 ·exact rm
 ·rfl
 first | refine op_y (y_nil rfl) rfl ?_ | refine op_y (y_nili rfl) rfl ?_ | refine op_y (y_nilf rfl) rfl ?_
 first | refine op_y (y_fld Rules2.fo_226_2 rfl) rfl ?_ | refine op_y (y_flda Rules2.fo_226_2 rfl) rfl ?_
 apply op_ld Rules2.sc_222 rfl rfl
 ·exact rm
 ·rfl
 refine op_y (y_len Rules2.un_222 rfl) rfl ?_
 refine op_y (y_mkfs rfl) rfl ?_
 apply op_c Rules2.ca_202 rfl rfl (fun e he_ => search_ct e b2 b3 t b1 c1 ts td bb c2 r1 h)
 ·exact sx
 rintro _ _ ⟨rfl, rfl⟩ G_ hG_
 simp only [zn] at hG_; subst hG_
 refine op_y (y_assign rfl) rfl ?_
 refine op_nil ?_
 refine ent_then ?_
 refine cd_seq ?_
 refine cd_region [0, 0, 0, 1, 0, 0, 1, 0, 0, 0, 0, 1, 0, 0] ?_
 refine op_y (y_move rfl) rfl ?_
 refine op_y (y_move rfl) rfl ?_
 refine op_y (y_and (r := 1) rfl rfl (by decide)) rfl ?_
 apply op_ld Rules2.sc_122 rfl rfl
 ·exact rm
 ·rfl
 first | refine op_y (y_nil rfl) rfl ?_ | refine op_y (y_nili rfl) rfl ?_ | refine op_y (y_nilf rfl) rfl ?_
 first | refine op_y (y_fld Rules2.fo_226_2 rfl) rfl ?_ | refine op_y (y_flda Rules2.fo_226_2 rfl) rfl ?_
 apply op_ld Rules2.sc_222 rfl rfl
 ·exact rm
 ·rfl
 refine op_y (y_move rfl) rfl ?_
 refine op_y (y_sub (r := 0) rfl rfl (by decide)) rfl ?_
 first | refine op_y (y_ix0 (j := 0) Rules2.sl_222 rfl rfl (by omega) (by omega)) rfl ?_ | refine op_y (y_ix (j := 0) Rules2.sl_222 rfl rfl (by omega) (by omega)) rfl ?_ | refine op_y (y_ixa (j := 0) Rules2.sl_222 rfl rfl (by omega) (by omega)) rfl ?_
 first | refine op_y (y_fld Rules2.fo_321_1 rfl) rfl ?_ | refine op_y (y_flda Rules2.fo_321_1 rfl) rfl ?_
 apply op_ld Rules2.sc_315 rfl rfl
 ·exact rm
 ·rfl
 refine op_y (y_and (r := 1) rfl rfl (by decide)) rfl ?_
 refine op_y (y_assign rfl) rfl ?_
 refine op_nil ?_
 refine ent_then ?_
 refine cd_ret ?_
 refine ent_ret1 rfl rfl ⟨_, ⟨rfl, rfl⟩, fun w h => rulesI_shut ⟨ts, td, b1, c1, r1, bb, c2, r2⟩ ?_⟩
 apply Sat.only (h := h)
 exact sx
theorem rlen_ct (c : Cx) (t : Nat) : Ct Tryz.prog 162 #[.pointer (some ⟨t, 0, none⟩)] c [rulesI t] fun v L => v = .int .i64 1 ∧ L = [rulesI t] := by
 refine ct_fn (args := [.pointer (some ⟨t, 0, none⟩)]) [(0, .pointer (some ⟨t, 0, none⟩))] Tryz.func162 rfl Tryz.ntmps162 rfl ⟨rfl, trivial⟩ ?_
 refine cd_open rulesI_open ?_
 rintro ⟨ts, td, b1, c1, r1, bb, c2, r2⟩ -
 simp only []
 refine cd_seq ?_
 refine cd_region [0] ?_
 refine op_y (y_assign rfl) rfl ?_
 refine op_nil ?_
 refine ent_then ?_
 refine cd_seq ?_
 refine cd_seq ?_
 refine cd_region [0, 0] ?_
 refine op_y (y_move rfl) rfl ?_
 first | refine op_y (y_peq (r := false) Rules2.un_122 rfl rfl) rfl ?_ | refine op_y (y_peq (r := true) Rules2.un_122 rfl rfl) rfl ?_ | refine op_y (y_peq Rules2.un_122 rfl rfl) rfl ?_
 refine op_nil ?_
 refine ent_then ?_
 refine cd_iff rfl ?_
 refine cd_skip ?_
 refine ent_then ?_
 refine cd_seq ?_
 refine cd_region [0, 0, 0, 1, 0, 0] ?_
 refine op_y (y_move rfl) rfl ?_
 first | refine op_y (y_nil rfl) rfl ?_ | refine op_y (y_nili rfl) rfl ?_ | refine op_y (y_nilf rfl) rfl ?_
 first | refine op_y (y_fld Rules2.fo_226_3 rfl) rfl ?_ | refine op_y (y_flda Rules2.fo_226_3 rfl) rfl ?_
 apply op_ld Rules2.sc_224 rfl rfl
 ·exact rm
 ·rfl
 refine op_y (y_len Rules2.un_224 rfl) rfl ?_
 refine op_y (y_assign rfl) rfl ?_
 refine op_nil ?_
 refine ent_then ?_
 refine cd_ret ?_
 refine ent_ret1 rfl rfl ⟨_, ⟨rfl, rfl⟩, fun w h => rulesI_shut ⟨ts, td, b1, c1, r1, bb, c2, r2⟩ ?_⟩
 apply Sat.only (h := h)
 exact sx
theorem ctz1 : Lib.ctz 64 1 = 0 := by decide +kernel
theorem rfind_ct (c : Cx) (t : Nat) (h : Hdr) (hk : h.ok) : Ct Tryz.prog 104 #[.pointer (some ⟨t, 0, none⟩), .agg (Hdr.cs h).toArray] c [rulesI t, tabA] fun v L => v = .tuple #[.int .i64 0, .bool true] ∧ L = [rulesI t, tabA] := by
 refine ct_fn (args := [.pointer (some ⟨t, 0, none⟩), .agg (Hdr.cs h).toArray]) [(0, .pointer (some ⟨t, 0, none⟩)), (1, .agg (Hdr.cs h).toArray)] Tryz.func104 rfl Tryz.ntmps104 rfl ⟨rfl, rfl, trivial⟩ ?_
 refine cd_seq ?_
 refine cd_region [2, 0, 0] ?_
 refine op_boxa rfl rfl fun b3 => ?_
 refine op_y (y_assign rfl) rfl ?_
 refine op_y (y_assign rfl) rfl ?_
 refine op_nil ?_
 refine ent_then ?_
 refine cd_seq ?_
 refine cd_seq ?_
 refine cd_region [0, 2, 0] ?_
 refine op_y (y_move rfl) rfl ?_
 apply op_c Rules2.ca_162 rfl rfl (fun e he_ => rlen_ct e t)
 ·exact sx
 rintro _ _ ⟨rfl, rfl⟩ G_ hG_
 simp only [zn] at hG_; subst hG_
 first | refine op_y (y_eq rfl rfl (eqT (by omega))) rfl ?_ | refine op_y (y_eq rfl rfl (eqF (by omega))) rfl ?_ | refine op_y (y_eq rfl rfl rfl) rfl ?_
 refine op_nil ?_
 refine ent_then ?_
 refine cd_iff rfl ?_
 refine cd_skip ?_
 refine ent_then ?_
 refine cd_seq ?_
 refine cd_region [0, 1, 2, 0] ?_
 refine op_y (y_move rfl) rfl ?_
 apply op_lda Rules2.ag_44 rfl rfl
 ·exact rm
 ·(first | ((try simp only [zz, splice, Nat.reduceAdd, Nat.zero_mul, Nat.zero, Hdr.cs, ncs, pre0, rcs]) <;> rfl) | rfl)
 ·rfl
 apply op_c Rules2.ca_163 rfl rfl (fun e he_ => hold_ct e t h hk)
 ·exact sx
 rintro _ _ ⟨rfl, rfl⟩ G_ hG_
 simp only [zn] at hG_; subst hG_
 refine op_y (y_assign rfl) rfl ?_
 refine op_nil ?_
 refine ent_then ?_
 refine cd_seq ?_
 refine cd_seq ?_
 refine cd_region [0, 0] ?_
 refine op_y (y_move rfl) rfl ?_
 first | refine op_y (y_eq rfl rfl (eqT (by omega))) rfl ?_ | refine op_y (y_eq rfl rfl (eqF (by omega))) rfl ?_ | refine op_y (y_eq rfl rfl rfl) rfl ?_
 refine op_nil ?_
 refine ent_then ?_
 refine cd_iff rfl ?_
 refine cd_skip ?_
 refine ent_then ?_
 refine cd_seq ?_
 refine cd_region [0, 2, 0, 0] ?_
 refine op_y (y_move rfl) rfl ?_
 apply op_c Rules2.ca_164 rfl rfl (fun e he_ => tz_ct e 1 (by decide))
 ·exact sx
 rintro _ _ ⟨rfl, rfl⟩ G_ hG_
 simp only [zn] at hG_; subst hG_
 rw [ctz1]
 refine op_y (y_assign rfl) rfl ?_
 refine op_y (y_assign rfl) rfl ?_
 refine op_nil ?_
 refine ent_then ?_
 refine cd_ret ?_
 refine ent_ret2 rfl rfl rfl ⟨_, ⟨rfl, rfl⟩, fun w h => ?_⟩
 apply Sat.only (h := h)
 exact sx
theorem rflow_ct (c : Cx) (t : Nat) (h : Hdr) (hk : h.ok) : Ct Tryz.prog 55 #[.pointer (some ⟨t, 0, none⟩), .agg (Hdr.cs h).toArray] c [rulesI t, tabA] fun v L => v = .tuple #[.int .u32 1, .bool true] ∧ L = [rulesI t, tabA] := by
 refine ct_fn (args := [.pointer (some ⟨t, 0, none⟩), .agg (Hdr.cs h).toArray]) [(0, .pointer (some ⟨t, 0, none⟩)), (1, .agg (Hdr.cs h).toArray)] Tryz.func55 rfl Tryz.ntmps55 rfl ⟨rfl, rfl, trivial⟩ ?_
 refine cd_seq ?_
 refine cd_region [2, 0, 0] ?_
 refine op_boxa rfl rfl fun b3 => ?_
 refine op_y (y_assign rfl) rfl ?_
 refine op_y (y_assign rfl) rfl ?_
 refine op_nil ?_
 refine ent_then ?_
 refine cd_seq ?_
 refine cd_region [0, 1, 2, 0, 0, 0, 0, 0] ?_
 refine op_y (y_move rfl) rfl ?_
 apply op_lda Rules2.ag_44 rfl rfl
 ·exact rm
 ·(first | ((try simp only [zz, splice, Nat.reduceAdd, Nat.zero_mul, Nat.zero, Hdr.cs, ncs, pre0, rcs]) <;> rfl) | rfl)
 ·rfl
 apply op_c Rules2.ca_104 rfl rfl (fun e he_ => rfind_ct e t h hk)
 ·exact sx
 rintro _ _ ⟨rfl, rfl⟩ G_ hG_
 simp only [zn] at hG_; subst hG_
 refine op_y (y_move rfl) rfl ?_
 first | refine op_y (y_extl rfl rfl) rfl ?_ | refine op_y (y_ext rfl rfl) rfl ?_
 first | refine op_y (y_extl rfl rfl) rfl ?_ | refine op_y (y_ext rfl rfl) rfl ?_
 refine op_y (y_assign rfl) rfl ?_
 refine op_y (y_assign rfl) rfl ?_
 refine op_nil ?_
 refine ent_then ?_
 refine cd_seq ?_
 refine cd_seq ?_
 refine cd_region [0, 0] ?_
 refine op_y (y_move rfl) rfl ?_
 first | refine op_y (y_not (b := true) (r := false) rfl rfl) rfl ?_ | refine op_y (y_not (b := false) (r := true) rfl rfl) rfl ?_ | refine op_y (y_not rfl rfl) rfl ?_
 refine op_nil ?_
 refine ent_then ?_
 refine cd_iff rfl ?_
 apply cd_openR (A := rulesI t)
 ·exact rm
 ·exact rulesI_open
 rintro ⟨ts, td, b1, c1, r1, bb, c2, r2⟩ -
 simp only []
 refine cd_skip ?_
 refine ent_then ?_
 refine cd_seq ?_
 refine cd_region [0, 0, 0, 1, 0, 0, 1, 0, 0] ?_
 refine op_y (y_move rfl) rfl ?_
 first | refine op_y (y_nil rfl) rfl ?_ | refine op_y (y_nili rfl) rfl ?_ | refine op_y (y_nilf rfl) rfl ?_
 first | refine op_y (y_fld Rules2.fo_226_3 rfl) rfl ?_ | refine op_y (y_flda Rules2.fo_226_3 rfl) rfl ?_
 apply op_ld Rules2.sc_224 rfl rfl
 ·exact rm
 ·rfl
 refine op_y (y_move rfl) rfl ?_
 first | refine op_y (y_ix0 (j := 0) Rules2.sl_224 rfl rfl (by omega) (by omega)) rfl ?_ | refine op_y (y_ix (j := 0) Rules2.sl_224 rfl rfl (by omega) (by omega)) rfl ?_ | refine op_y (y_ixa (j := 0) Rules2.sl_224 rfl rfl (by omega) (by omega)) rfl ?_
 apply op_ld Rules2.sc_42 rfl rfl
 ·exact rm
 ·rfl
 refine op_y (y_assign rfl) rfl ?_
 refine op_y (y_assign rfl) rfl ?_
 refine op_nil ?_
 refine ent_then ?_
 refine cd_ret ?_
 refine ent_ret2 rfl rfl rfl ⟨_, ⟨rfl, rfl⟩, fun w h => rulesI_shut ⟨ts, td, b1, c1, r1, bb, c2, r2⟩ ?_⟩
 apply Sat.only (h := h)
 exact sx
end Go.Proofs.YtfkadaodnaaceaaGreatDoor
/- What one rule that holds of all headers makes: prefixes. -/
namespace Go.Proofs.YtfkadaodnaaceaaGreatDoor
open Go Go.SL
theorem New4.ag_151 : aggK Tryz.prog 151 = some 2 := by kernel_rfl
theorem New4.ag_153 : aggK Tryz.prog 153 = some 7 := by kernel_rfl
theorem New4.ca_94 : callable Tryz.prog 94 = true := by kernel_rfl
theorem New4.ca_95 : callable Tryz.prog 95 = true := by kernel_rfl
theorem New4.ca_100 : callable Tryz.prog 100 = true := by kernel_rfl
theorem New4.ca_138 : callable Tryz.prog 138 = true := by kernel_rfl
theorem New4.ca_155 : callable Tryz.prog 155 = true := by kernel_rfl
theorem New4.ca_156 : callable Tryz.prog 156 = true := by kernel_rfl
theorem New4.ca_157 : callable Tryz.prog 157 = true := by kernel_rfl
theorem New4.ca_197 : callable Tryz.prog 197 = true := by kernel_rfl
theorem New4.fo_151_0 : fieldOff Tryz.prog 151 0 = some 0 := by kernel_rfl
theorem New4.fo_151_1 : fieldOff Tryz.prog 151 1 = some 1 := by kernel_rfl
theorem New4.fo_153_0 : fieldOff Tryz.prog 153 0 = some 0 := by kernel_rfl
theorem New4.fo_153_1 : fieldOff Tryz.prog 153 1 = some 2 := by kernel_rfl
theorem New4.fo_153_2 : fieldOff Tryz.prog 153 2 = some 4 := by kernel_rfl
theorem New4.fo_153_3 : fieldOff Tryz.prog 153 3 = some 5 := by kernel_rfl
theorem New4.fo_375_0 : fieldOff Tryz.prog 375 0 = some 0 := by kernel_rfl
theorem New4.fo_375_1 : fieldOff Tryz.prog 375 1 = some 2 := by kernel_rfl
theorem New4.fo_375_2 : fieldOff Tryz.prog 375 2 = some 3 := by kernel_rfl
theorem New4.fo_377_0 : fieldOff Tryz.prog 377 0 = some 0 := by kernel_rfl
theorem New4.fo_377_1 : fieldOff Tryz.prog 377 1 = some 1 := by kernel_rfl
theorem New4.pl_375 : placesK Tryz.prog 375 = some [(0, 2), (2, 1), (3, 1), (4, 2)] := by kernel_rfl
theorem New4.pl_377 : placesK Tryz.prog 377 = some [(0, 1), (1, 1)] := by kernel_rfl
theorem New4.sc_3 : scalarT Tryz.prog 3 = true := by kernel_rfl
theorem New4.sc_4 : scalarT Tryz.prog 4 = true := by kernel_rfl
theorem New4.sc_41 : scalarT Tryz.prog 41 = true := by kernel_rfl
theorem New4.sc_42 : scalarT Tryz.prog 42 = true := by kernel_rfl
theorem New4.sc_372 : scalarT Tryz.prog 372 = true := by kernel_rfl
theorem New4.sl_26 : sliceK Tryz.prog 26 = some (153, 7, 40) := by kernel_rfl
theorem New4.sz_3 : sizeK Tryz.prog 3 = some 1 := by kernel_rfl
theorem New4.sz_4 : sizeK Tryz.prog 4 = some 1 := by kernel_rfl
theorem New4.sz_151 : sizeK Tryz.prog 151 = some 2 := by kernel_rfl
theorem New4.sz_153 : sizeK Tryz.prog 153 = some 7 := by kernel_rfl
theorem New4.sz_315 : sizeK Tryz.prog 315 = some 1 := by kernel_rfl
theorem New4.un_26 : Tryz.prog.underlying 26 = some (.slice 153) := by kernel_rfl
theorem New4.un_219 : Tryz.prog.underlying 219 = some (.pointer 377) := by kernel_rfl
theorem New4.un_372 : Tryz.prog.underlying 372 = some (.pointer 375) := by kernel_rfl
theorem New4.ze_151 : zeroC Tryz.prog 151 = some [.int .u32 0, .int .i64 0] := by kernel_rfl
theorem New4.ze_153 : zeroC Tryz.prog 153 = some [.int .u32 0, .int .i64 0, .int .u32 0, .int .i64 0, .int .u16 0, .int .u16 0, .int .u32 0] := by kernel_rfl
theorem New4.ze_375 : zeroC Tryz.prog 375 = some [.int .u32 0, .int .i64 0, .bool false, .int .u64 0, .pointer none, .pointer none] := by kernel_rfl
theorem New4.ze_377 : zeroC Tryz.prog 377 = some [.pointer none, .int .i64 0] := by kernel_rfl
set_option maxRecDepth 100000
set_option maxHeartbeats 1000000
abbrev rlc : List Value := [.int .u32 0, .int .i64 0, .int .u32 0, .int .i64 0, .int .u16 0, .int .u16 65535, .int .u32 1]
theorem rCheck_ct (c : Cx) (bc k : Nat) : Ct Tryz.prog 53 #[.slice (some ⟨bc, 0, none⟩) 1 k] c [pt bc 153 rlc] fun v L => v = .int .i64 0 ∧ L = [pt bc 153 rlc] := by
 refine ct_fn (args := [.slice (some ⟨bc, 0, none⟩) 1 k]) [(0, .slice (some ⟨bc, 0, none⟩) 1 k)] Tryz.func53 rfl Tryz.ntmps53 rfl ⟨rfl, trivial⟩ ?_
 refine cd_seq ?_
 refine cd_region [0] ?_
 refine op_y (y_assign rfl) rfl ?_
 refine op_nil ?_
 refine ent_then ?_
 refine cd_seq ?_
 refine cd_seq ?_
 refine cd_region [0, 0, 0] ?_
 refine op_y (y_move rfl) rfl ?_
 refine op_y (y_len New4.un_26 rfl) rfl ?_
 first | refine op_y (y_gt rfl rfl (decide_eq_true (by omega))) rfl ?_ | refine op_y (y_gt rfl rfl (decide_eq_false (by omega))) rfl ?_ | refine op_y (y_gt rfl rfl rfl) rfl ?_
 refine op_nil ?_
 refine ent_then ?_
 refine cd_iff rfl ?_
 refine cd_skip ?_
 refine ent_then ?_
 refine cd_seq ?_
 refine cd_seq ?_
 refine cd_region [0, 0, 0] ?_
 refine op_y (y_move rfl) rfl ?_
 refine op_y (y_len New4.un_26 rfl) rfl ?_
 refine op_y (y_move rfl) rfl ?_
 refine op_nil ?_
 refine ent_then ?_
 refine cd_block ?_
 refine cd_rounds 1 ?_
 refine cd_seq ?_
 refine cd_region [0] ?_
 first | refine op_y (y_lt rfl rfl (decide_eq_true (by omega))) rfl ?_ | refine op_y (y_lt rfl rfl (decide_eq_false (by omega))) rfl ?_ | refine op_y (y_lt rfl rfl rfl) rfl ?_
 refine op_nil ?_
 refine ent_then ?_
 refine cd_seq ?_
 refine cd_ift rfl ?_
 refine cd_skip ?_
 refine ent_then ?_
 refine cd_seq ?_
 refine cd_block ?_
 refine cd_seq ?_
 refine cd_region [0, 1, 2, 2] ?_
 first | refine op_y (y_ix0 (j := 0) New4.sl_26 rfl rfl (by omega) (by omega)) rfl ?_ | refine op_y (y_ix (j := 0) New4.sl_26 rfl rfl (by omega) (by omega)) rfl ?_ | refine op_y (y_ixa (j := 0) New4.sl_26 rfl rfl (by omega) (by omega)) rfl ?_
 apply op_lda New4.ag_153 rfl rfl
 ·exact rm
 ·(first | ((try simp only [zz, splice, Nat.reduceAdd, Nat.zero_mul, Nat.zero, rlc, pre0, ncs]) <;> rfl) | rfl)
 ·rfl
 refine op_alloc New4.ze_153 rfl fun b4 => ?_
 apply op_sta New4.sz_153 rfl rfl rfl rfl
 ·exact rm
 ·simp
 ·(first | ((try simp only [zz, splice, Nat.reduceAdd, Nat.zero_mul, Nat.zero, rlc, pre0, ncs]) <;> rfl) | rfl)
 refine op_nil ?_
 refine ent_then ?_
 refine cd_seq ?_
 refine cd_region [0, 1, 2, 0, 0, 0, 1, 2, 0, 0, 0, 0, 1, 0, 1, 0, 0] ?_
 first | refine op_y (y_fld0 New4.fo_153_0 rfl) rfl ?_ | refine op_y (y_flda New4.fo_153_0 rfl) rfl ?_
 apply op_lda New4.ag_151 rfl rfl
 ·exact rm
 ·(first | ((try simp only [zz, splice, Nat.reduceAdd, Nat.zero_mul, Nat.zero, rlc, pre0, ncs]) <;> rfl) | rfl)
 ·rfl
 apply op_c New4.ca_100 rfl rfl (fun e he_ => right0_ct e)
 ·exact sx
 rintro _ _ ⟨rfl, rfl⟩ G_ hG_
 simp only [zn] at hG_; subst hG_
 first | refine op_y (y_not (b := true) (r := false) rfl rfl) rfl ?_ | refine op_y (y_not (b := false) (r := true) rfl rfl) rfl ?_ | refine op_y (y_not rfl rfl) rfl ?_
 refine op_y (y_move rfl) rfl ?_
 first
  | refine op_s1 rfl rfl ⟨rfl, rfl⟩ ?_
  | refine op_s2 rfl rfl ⟨rfl, rfl⟩ ?_
  | (refine op_g rfl rfl ?_
     first | refine op_y (y_fld New4.fo_153_1 rfl) rfl ?_ | refine op_y (y_flda New4.fo_153_1 rfl) rfl ?_)
 first
  | refine op_s1 rfl rfl ⟨rfl, rfl⟩ ?_
  | refine op_s2 rfl rfl ⟨rfl, rfl⟩ ?_
  | (refine op_g rfl rfl ?_
     apply op_lda New4.ag_151 rfl rfl
     ·exact rm
     ·(first | ((try simp only [zz, splice, Nat.reduceAdd, Nat.zero_mul, Nat.zero, rlc, pre0, ncs]) <;> rfl) | rfl)
     ·rfl)
 refine op_g rfl rfl ?_
 apply op_c New4.ca_100 rfl rfl (fun e he_ => right0_ct e)
 ·exact sx
 rintro _ _ ⟨rfl, rfl⟩ G_ hG_
 simp only [zn] at hG_; subst hG_
 first
  | refine op_s1 rfl rfl ⟨rfl, rfl⟩ ?_
  | refine op_s2 rfl rfl ⟨rfl, rfl⟩ ?_
  | (refine op_g rfl rfl ?_
     first | refine op_y (y_not (b := true) (r := false) rfl rfl) rfl ?_ | refine op_y (y_not (b := false) (r := true) rfl rfl) rfl ?_ | refine op_y (y_not rfl rfl) rfl ?_)
 first | refine op_y (y_pickt rfl rfl) rfl ?_ | refine op_y (y_pickf rfl rfl) rfl ?_ | refine op_y (y_pick rfl rfl rfl) rfl ?_
 refine op_y (y_move rfl) rfl ?_
 first
  | refine op_s1 rfl rfl ⟨rfl, rfl⟩ ?_
  | refine op_s2 rfl rfl ⟨rfl, rfl⟩ ?_
  | (refine op_g rfl rfl ?_
     first | refine op_y (y_fld New4.fo_153_2 rfl) rfl ?_ | refine op_y (y_flda New4.fo_153_2 rfl) rfl ?_)
 first
  | refine op_s1 rfl rfl ⟨rfl, rfl⟩ ?_
  | refine op_s2 rfl rfl ⟨rfl, rfl⟩ ?_
  | (refine op_g rfl rfl ?_
     apply op_ld New4.sc_41 rfl rfl
     ·exact rm
     ·rfl)
 first
  | refine op_s1 rfl rfl ⟨rfl, rfl⟩ ?_
  | refine op_s2 rfl rfl ⟨rfl, rfl⟩ ?_
  | (refine op_g rfl rfl ?_
     first | refine op_y (y_fld New4.fo_153_3 rfl) rfl ?_ | refine op_y (y_flda New4.fo_153_3 rfl) rfl ?_)
 first
  | refine op_s1 rfl rfl ⟨rfl, rfl⟩ ?_
  | refine op_s2 rfl rfl ⟨rfl, rfl⟩ ?_
  | (refine op_g rfl rfl ?_
     apply op_ld New4.sc_41 rfl rfl
     ·exact rm
     ·rfl)
 first
  | refine op_s1 rfl rfl ⟨rfl, rfl⟩ ?_
  | refine op_s2 rfl rfl ⟨rfl, rfl⟩ ?_
  | (refine op_g rfl rfl ?_
     first | refine op_y (y_gt rfl rfl (decide_eq_true (by omega))) rfl ?_ | refine op_y (y_gt rfl rfl (decide_eq_false (by omega))) rfl ?_ | refine op_y (y_gt rfl rfl rfl) rfl ?_)
 first | refine op_y (y_pickt rfl rfl) rfl ?_ | refine op_y (y_pickf rfl rfl) rfl ?_ | refine op_y (y_pick rfl rfl rfl) rfl ?_
 refine op_nil ?_
 refine ent_then ?_
 refine cd_iff rfl ?_
 refine cd_skip ?_
 refine ent_block ?_
 refine ent_then ?_
 refine cd_region [0, 0] ?_
 first | refine op_y (y_add rfl rfl (wi64 (by omega) (by omega))) rfl ?_ | refine op_y (y_add rfl rfl rfl) rfl ?_
 refine op_y (y_move rfl) rfl ?_
 refine op_nil ?_
 refine ent_round ?_
 refine cd_seq ?_
 refine cd_region [0] ?_
 first | refine op_y (y_lt rfl rfl (decide_eq_true (by omega))) rfl ?_ | refine op_y (y_lt rfl rfl (decide_eq_false (by omega))) rfl ?_ | refine op_y (y_lt rfl rfl rfl) rfl ?_
 refine op_nil ?_
 refine ent_then ?_
 refine cd_seq ?_
 refine cd_iff rfl ?_
 refine cd_exit ?_
 refine ent_thn_exit ?_
 refine ent_then_exit ?_
 refine ent_block_exit ?_
 refine ent_then ?_
 refine cd_seq ?_
 refine cd_region [0] ?_
 refine op_y (y_assign rfl) rfl ?_
 refine op_nil ?_
 refine ent_then ?_
 refine cd_ret ?_
 refine ent_ret1 rfl rfl ⟨_, ⟨rfl, rfl⟩, fun w h => ?_⟩
 apply Sat.only (h := h)
 exact sx
theorem src_ct (c : Cx) : Ct Tryz.prog 94 #[.agg rlc.toArray] c [] fun v L => v = .agg pre0.toArray ∧ L = [] := by
 refine ct_fn (args := [.agg rlc.toArray]) [(0, .agg rlc.toArray)] Tryz.func94 rfl Tryz.ntmps94 rfl ⟨rfl, trivial⟩ ?_
 refine cd_seq ?_
 refine cd_region [2, 2] ?_
 refine op_boxa rfl rfl fun b1 => ?_
 refine op_alloc New4.ze_151 rfl fun b2 => ?_
 refine op_nil ?_
 refine ent_then ?_
 refine cd_seq ?_
 refine cd_region [0, 1, 2] ?_
 first | refine op_y (y_fld0 New4.fo_153_0 rfl) rfl ?_ | refine op_y (y_flda New4.fo_153_0 rfl) rfl ?_
 apply op_lda New4.ag_151 rfl rfl
 ·exact rm
 ·(first | ((try simp only [zz, splice, Nat.reduceAdd, Nat.zero_mul, Nat.zero, rlc, pre0, ncs]) <;> rfl) | rfl)
 ·rfl
 apply op_sta New4.sz_151 rfl rfl rfl rfl
 ·exact rm
 ·simp
 ·(first | ((try simp only [zz, splice, Nat.reduceAdd, Nat.zero_mul, Nat.zero, rlc, pre0, ncs]) <;> rfl) | rfl)
 refine op_nil ?_
 refine ent_then ?_
 refine cd_ret ?_
 refine ent_rets (rs := [_]) (vs := [.agg pre0.toArray]) (.inl rfl) rfl ⟨⟨_, rfl, .inr ⟨_, 2, rfl, rfl, rds_all (by exact rm), rfl⟩⟩, trivial⟩ ⟨_, ⟨rfl, rfl⟩, fun w h => h.nil_of⟩
theorem dst_ct (c : Cx) : Ct Tryz.prog 95 #[.agg rlc.toArray] c [] fun v L => v = .agg pre0.toArray ∧ L = [] := by
 refine ct_fn (args := [.agg rlc.toArray]) [(0, .agg rlc.toArray)] Tryz.func95 rfl Tryz.ntmps95 rfl ⟨rfl, trivial⟩ ?_
 refine cd_seq ?_
 refine cd_region [2, 2] ?_
 refine op_boxa rfl rfl fun b1 => ?_
 refine op_alloc New4.ze_151 rfl fun b2 => ?_
 refine op_nil ?_
 refine ent_then ?_
 refine cd_seq ?_
 refine cd_region [0, 1, 2] ?_
 first | refine op_y (y_fld New4.fo_153_1 rfl) rfl ?_ | refine op_y (y_flda New4.fo_153_1 rfl) rfl ?_
 apply op_lda New4.ag_151 rfl rfl
 ·exact rm
 ·(first | ((try simp only [zz, splice, Nat.reduceAdd, Nat.zero_mul, Nat.zero, rlc, pre0, ncs]) <;> rfl) | rfl)
 ·rfl
 apply op_sta New4.sz_151 rfl rfl rfl rfl
 ·exact rm
 ·simp
 ·(first | ((try simp only [zz, splice, Nat.reduceAdd, Nat.zero_mul, Nat.zero, rlc, pre0, ncs]) <;> rfl) | rfl)
 refine op_nil ?_
 refine ent_then ?_
 refine cd_ret ?_
 refine ent_rets (rs := [_]) (vs := [.agg pre0.toArray]) (.inl rfl) rfl ⟨⟨_, rfl, .inr ⟨_, 2, rfl, rfl, rds_all (by exact rm), rfl⟩⟩, trivial⟩ ⟨_, ⟨rfl, rfl⟩, fun w h => h.nil_of⟩
theorem trNew_ct (c : Cx) : Ct Tryz.prog 155 #[] c [] fun v L => ∃ t n, v = .pointer (some ⟨t, 0, none⟩) ∧ L = [pt t 377 [.pointer (some ⟨n, 0, none⟩), .int .i64 0], pt n 375 [.int .u32 0, .int .i64 0, .bool false, .int .u64 0, .pointer none, .pointer none]] := by
 refine ct_fn (args := []) [] Tryz.func155 rfl Tryz.ntmps155 rfl trivial ?_
 refine cd_seq ?_
 refine cd_region [0] ?_
 refine op_y (y_assign rfl) rfl ?_
 refine op_nil ?_
 refine ent_then ?_
 refine cd_seq ?_
 refine cd_region [0, 2, 0, 2, 0] ?_
 apply op_build New4.pl_375 New4.ze_375 rfl rfl
 ·(first | ((try simp [fillL, splice, Value.cells, Nat.zero, rlc, pre0, ncs]) <;> rfl) | rfl)
 refine op_boxa rfl rfl fun b2 => ?_
 apply op_build New4.pl_377 New4.ze_377 rfl rfl
 ·(first | ((try simp [fillL, splice, Value.cells, Nat.zero, rlc, pre0, ncs]) <;> rfl) | rfl)
 refine op_boxa rfl rfl fun b4 => ?_
 refine op_y (y_assign rfl) rfl ?_
 refine op_nil ?_
 refine ent_then ?_
 refine cd_ret ?_
 refine ent_ret1 rfl rfl ⟨_, ⟨b4, b2, rfl, rfl⟩, fun w h => h⟩
theorem cov0_ct (c : Cx) : Ct Tryz.prog 156 #[.agg pre0.toArray, .agg pre0.toArray] c [] fun v L => v = .bool true ∧ L = [] := by
 refine ct_fn (args := [.agg pre0.toArray, .agg pre0.toArray]) [(0, .agg pre0.toArray), (1, .agg pre0.toArray)] Tryz.func156 rfl Tryz.ntmps156 rfl ⟨rfl, rfl, trivial⟩ ?_
 refine cd_seq ?_
 refine cd_region [2, 2, 0] ?_
 refine op_boxa rfl rfl fun b2 => ?_
 refine op_boxa rfl rfl fun b3 => ?_
 refine op_y (y_assign rfl) rfl ?_
 refine op_nil ?_
 refine ent_then ?_
 refine cd_seq ?_
 refine cd_region [1, 2, 0, 0, 1, 0, 1, 0, 0, 0, 1, 0, 1, 2, 0, 0] ?_
 apply op_lda New4.ag_151 rfl rfl
 ·exact rm
 ·(first | ((try simp only [zz, splice, Nat.reduceAdd, Nat.zero_mul, Nat.zero, rlc, pre0, ncs]) <;> rfl) | rfl)
 ·rfl
 apply op_c New4.ca_100 rfl rfl (fun e he_ => right0_ct e)
 ·exact sx
 rintro _ _ ⟨rfl, rfl⟩ G_ hG_
 simp only [zn] at hG_; subst hG_
 refine op_y (y_move rfl) rfl ?_
 first
  | refine op_s1 rfl rfl ⟨rfl, rfl⟩ ?_
  | refine op_s2 rfl rfl ⟨rfl, rfl⟩ ?_
  | (refine op_g rfl rfl ?_
     first | refine op_y (y_fld New4.fo_151_1 rfl) rfl ?_ | refine op_y (y_flda New4.fo_151_1 rfl) rfl ?_)
 first
  | refine op_s1 rfl rfl ⟨rfl, rfl⟩ ?_
  | refine op_s2 rfl rfl ⟨rfl, rfl⟩ ?_
  | (refine op_g rfl rfl ?_
     apply op_ld New4.sc_3 rfl rfl
     ·exact rm
     ·rfl)
 first
  | refine op_s1 rfl rfl ⟨rfl, rfl⟩ ?_
  | refine op_s2 rfl rfl ⟨rfl, rfl⟩ ?_
  | (refine op_g rfl rfl ?_
     first | refine op_y (y_fld New4.fo_151_1 rfl) rfl ?_ | refine op_y (y_flda New4.fo_151_1 rfl) rfl ?_)
 first
  | refine op_s1 rfl rfl ⟨rfl, rfl⟩ ?_
  | refine op_s2 rfl rfl ⟨rfl, rfl⟩ ?_
  | (refine op_g rfl rfl ?_
     apply op_ld New4.sc_3 rfl rfl
     ·exact rm
     ·rfl)
 first
  | refine op_s1 rfl rfl ⟨rfl, rfl⟩ ?_
  | refine op_s2 rfl rfl ⟨rfl, rfl⟩ ?_
  | (refine op_g rfl rfl ?_
     first | refine op_y (y_le rfl rfl (decide_eq_true (by omega))) rfl ?_ | refine op_y (y_le rfl rfl (decide_eq_false (by omega))) rfl ?_ | refine op_y (y_le rfl rfl rfl) rfl ?_)
 first | refine op_y (y_pickt rfl rfl) rfl ?_ | refine op_y (y_pickf rfl rfl) rfl ?_ | refine op_y (y_pick rfl rfl rfl) rfl ?_
 refine op_y (y_move rfl) rfl ?_
 first
  | refine op_s1 rfl rfl ⟨rfl, rfl⟩ ?_
  | refine op_s2 rfl rfl ⟨rfl, rfl⟩ ?_
  | (refine op_g rfl rfl ?_
     apply op_lda New4.ag_151 rfl rfl
     ·exact rm
     ·(first | ((try simp only [zz, splice, Nat.reduceAdd, Nat.zero_mul, Nat.zero, rlc, pre0, ncs]) <;> rfl) | rfl)
     ·rfl)
 first
  | refine op_s1 rfl rfl ⟨rfl, rfl⟩ ?_
  | refine op_s2 rfl rfl ⟨rfl, rfl⟩ ?_
  | (refine op_g rfl rfl ?_
     first | refine op_y (y_fld0 New4.fo_151_0 rfl) rfl ?_ | refine op_y (y_flda New4.fo_151_0 rfl) rfl ?_)
 first
  | refine op_s1 rfl rfl ⟨rfl, rfl⟩ ?_
  | refine op_s2 rfl rfl ⟨rfl, rfl⟩ ?_
  | (refine op_g rfl rfl ?_
     apply op_ld New4.sc_42 rfl rfl
     ·exact rm
     ·rfl)
 refine op_g rfl rfl ?_
 apply op_c New4.ca_138 rfl rfl (fun e he_ => has0_ct e 0)
 ·exact sx
 rintro _ _ ⟨rfl, rfl⟩ G_ hG_
 simp only [zn] at hG_; subst hG_
 first | refine op_y (y_pickt rfl rfl) rfl ?_ | refine op_y (y_pickf rfl rfl) rfl ?_ | refine op_y (y_pick rfl rfl rfl) rfl ?_
 refine op_y (y_assign rfl) rfl ?_
 refine op_nil ?_
 refine ent_then ?_
 refine cd_ret ?_
 refine ent_ret1 rfl rfl ⟨_, ⟨rfl, rfl⟩, fun w h => h.nil_of⟩
theorem preNe (x y : Operand) (w : World) : (do eqGuard .neq 151 x y (.agg #[.int .u32 0, .int .i64 0]) (.agg #[.int .u32 0, .int .i64 0]); binOp .neq 151 (.agg #[.int .u32 0, .int .i64 0]) (.agg #[.int .u32 0, .int .i64 0]) : Sem Value).run Tryz.prog w = .ok (.bool false) w := by kernel_rfl
theorem tfind_ct (c : Cx) (t n : Nat) : Ct Tryz.prog 197 #[.pointer (some ⟨t, 0, none⟩), .agg pre0.toArray] c [pt t 377 [.pointer (some ⟨n, 0, none⟩), .int .i64 0], pt n 375 [.int .u32 0, .int .i64 0, .bool false, .int .u64 0, .pointer none, .pointer none]]
 fun v L => v = .pointer (some ⟨n, 0, none⟩) ∧ L = [pt t 377 [.pointer (some ⟨n, 0, none⟩), .int .i64 0], pt n 375 [.int .u32 0, .int .i64 0, .bool false, .int .u64 0, .pointer none, .pointer none]] := by
 refine ct_fn (args := [.pointer (some ⟨t, 0, none⟩), .agg pre0.toArray]) [(0, .pointer (some ⟨t, 0, none⟩)), (1, .agg pre0.toArray)] Tryz.func197 rfl Tryz.ntmps197 rfl ⟨rfl, rfl, trivial⟩ ?_
 refine cd_seq ?_
 refine cd_region [2, 0] ?_
 refine op_boxa rfl rfl fun b3 => ?_
 refine op_y (y_assign rfl) rfl ?_
 refine op_nil ?_
 refine ent_then ?_
 refine cd_seq ?_
 refine cd_seq ?_
 refine cd_region [0, 0, 0, 1, 2, 0, 0] ?_
 refine op_y (y_move rfl) rfl ?_
 first | refine op_y (y_peq (r := false) New4.un_219 rfl rfl) rfl ?_ | refine op_y (y_peq (r := true) New4.un_219 rfl rfl) rfl ?_ | refine op_y (y_peq New4.un_219 rfl rfl) rfl ?_
 refine op_y (y_move rfl) rfl ?_
 first
  | refine op_s1 rfl rfl ⟨rfl, rfl⟩ ?_
  | refine op_s2 rfl rfl ⟨rfl, rfl⟩ ?_
  | (refine op_g rfl rfl ?_
     apply op_lda New4.ag_151 rfl rfl
     ·exact rm
     ·(first | ((try simp only [zz, splice, Nat.reduceAdd, Nat.zero_mul, Nat.zero, rlc, pre0, ncs]) <;> rfl) | rfl)
     ·rfl)
 refine op_g rfl rfl ?_
 apply op_c New4.ca_100 rfl rfl (fun e he_ => right0_ct e)
 ·exact sx
 rintro _ _ ⟨rfl, rfl⟩ G_ hG_
 simp only [zn] at hG_; subst hG_
 first
  | refine op_s1 rfl rfl ⟨rfl, rfl⟩ ?_
  | refine op_s2 rfl rfl ⟨rfl, rfl⟩ ?_
  | (refine op_g rfl rfl ?_
     first | refine op_y (y_not (b := true) (r := false) rfl rfl) rfl ?_ | refine op_y (y_not (b := false) (r := true) rfl rfl) rfl ?_ | refine op_y (y_not rfl rfl) rfl ?_)
 first | refine op_y (y_pickt rfl rfl) rfl ?_ | refine op_y (y_pickf rfl rfl) rfl ?_ | refine op_y (y_pick rfl rfl rfl) rfl ?_
 refine op_nil ?_
 refine ent_then ?_
 refine cd_iff rfl ?_
 refine cd_skip ?_
 refine ent_then ?_
 refine cd_seq ?_
 refine cd_region [0, 0, 0, 1, 0] ?_
 refine op_y (y_move rfl) rfl ?_
 first | refine op_y (y_nil rfl) rfl ?_ | refine op_y (y_nili rfl) rfl ?_ | refine op_y (y_nilf rfl) rfl ?_
 first | refine op_y (y_fld0 New4.fo_377_0 rfl) rfl ?_ | refine op_y (y_flda New4.fo_377_0 rfl) rfl ?_
 apply op_ld New4.sc_372 rfl rfl
 ·exact rm
 ·rfl
 refine op_y (y_assign rfl) rfl ?_
 refine op_nil ?_
 refine ent_then ?_
 refine cd_seq ?_
 refine cd_block ?_
 refine cd_rounds 0 ?_
 refine cd_seq ?_
 refine cd_seq ?_
 refine cd_draw ([]) [0, 1, 2, 3, 4, 5, 6, 7, 8, 9] [0, 0, 0, 0, 0, 0, 1, 1, 0, 0] mixed_ (by kernel_rfl) ?_
 refine op_y (y_move rfl) rfl ?_
 first | refine op_y (y_pne (r := false) New4.un_372 rfl rfl) rfl ?_ | refine op_y (y_pne (r := true) New4.un_372 rfl rfl) rfl ?_ | refine op_y (y_pne New4.un_372 rfl rfl) rfl ?_
 refine op_y (y_move rfl) rfl ?_
 first
  | refine op_s1 rfl rfl ⟨rfl, rfl⟩ ?_
  | refine op_s2 rfl rfl ⟨rfl, rfl⟩ ?_
  | (refine op_g rfl rfl ?_
     refine op_y (y_move rfl) rfl ?_)
 first
  | refine op_s1 rfl rfl ⟨rfl, rfl⟩ ?_
  | refine op_s2 rfl rfl ⟨rfl, rfl⟩ ?_
  | (refine op_g rfl rfl ?_
     first | refine op_y (y_nil rfl) rfl ?_ | refine op_y (y_nili rfl) rfl ?_ | refine op_y (y_nilf rfl) rfl ?_)
 first
  | refine op_s1 rfl rfl ⟨rfl, rfl⟩ ?_
  | refine op_s2 rfl rfl ⟨rfl, rfl⟩ ?_
  | (refine op_g rfl rfl ?_
     first | refine op_y (y_fld0 New4.fo_375_0 rfl) rfl ?_ | refine op_y (y_flda New4.fo_375_0 rfl) rfl ?_)
 first
  | refine op_s1 rfl rfl ⟨rfl, rfl⟩ ?_
  | refine op_s2 rfl rfl ⟨rfl, rfl⟩ ?_
  | (refine op_g rfl rfl ?_
     apply op_lda New4.ag_151 rfl rfl
     ·exact rm
     ·(first | ((try simp only [zz, splice, Nat.reduceAdd, Nat.zero_mul, Nat.zero, rlc, pre0, ncs]) <;> rfl) | rfl)
     ·rfl)
 first
  | refine op_s1 rfl rfl ⟨rfl, rfl⟩ ?_
  | refine op_s2 rfl rfl ⟨rfl, rfl⟩ ?_
  | (refine op_g rfl rfl ?_
     apply op_lda New4.ag_151 rfl rfl
     ·exact rm
     ·(first | ((try simp only [zz, splice, Nat.reduceAdd, Nat.zero_mul, Nat.zero, rlc, pre0, ncs]) <;> rfl) | rfl)
     ·rfl)
 refine op_g rfl rfl ?_
 refine op_y (y_cmpc (r := false) rfl rfl (preNe _ _)) rfl ?_
 first | refine op_y (y_pickt rfl rfl) rfl ?_ | refine op_y (y_pickf rfl rfl) rfl ?_ | refine op_y (y_pick rfl rfl rfl) rfl ?_
 refine op_nil ?_
 refine ent_then ?_
 refine cd_iff rfl ?_
 refine cd_exit ?_
 refine ent_thn_exit ?_
 refine ent_then_exit ?_
 refine ent_block_exit ?_
 refine ent_then ?_
 refine cd_seq ?_
 refine cd_region [0, 0] ?_
 refine op_y (y_move rfl) rfl ?_
 refine op_y (y_assign rfl) rfl ?_
 refine op_nil ?_
 refine ent_then ?_
 refine cd_ret ?_
 refine ent_ret1 rfl rfl ⟨_, ⟨rfl, rfl⟩, fun w h => ?_⟩
 apply Sat.only (h := h)
 exact sx
theorem tput_ct (c : Cx) (t n : Nat) : Ct Tryz.prog 157 #[.pointer (some ⟨t, 0, none⟩), .agg pre0.toArray, .int .u64 1] c [pt t 377 [.pointer (some ⟨n, 0, none⟩), .int .i64 0], pt n 375 [.int .u32 0, .int .i64 0, .bool false, .int .u64 0, .pointer none, .pointer none]]
 fun v L => v = .int .i64 0 ∧ L = [trieI t 1] := by
 refine ct_fn (args := [.pointer (some ⟨t, 0, none⟩), .agg pre0.toArray, .int .u64 1]) [(0, .pointer (some ⟨t, 0, none⟩)), (1, .agg pre0.toArray), (2, .int .u64 1)] Tryz.func157 rfl Tryz.ntmps157 rfl ⟨rfl, rfl, rfl, trivial⟩ ?_
 refine cd_seq ?_
 refine cd_region [2, 0] ?_
 refine op_boxa rfl rfl fun b4 => ?_
 refine op_y (y_assign rfl) rfl ?_
 refine op_nil ?_
 refine ent_then ?_
 refine cd_seq ?_
 refine cd_seq ?_
 refine cd_region [0, 0] ?_
 refine op_y (y_move rfl) rfl ?_
 first | refine op_y (y_peq (r := false) New4.un_219 rfl rfl) rfl ?_ | refine op_y (y_peq (r := true) New4.un_219 rfl rfl) rfl ?_ | refine op_y (y_peq New4.un_219 rfl rfl) rfl ?_
 refine op_nil ?_
 refine ent_then ?_
 refine cd_iff rfl ?_
 refine cd_skip ?_
 refine ent_then ?_
 refine cd_seq ?_
 refine cd_seq ?_
 refine cd_region [0, 0, 0, 1, 0] ?_
 refine op_y (y_move rfl) rfl ?_
 first | refine op_y (y_nil rfl) rfl ?_ | refine op_y (y_nili rfl) rfl ?_ | refine op_y (y_nilf rfl) rfl ?_
 first | refine op_y (y_fld0 New4.fo_377_0 rfl) rfl ?_ | refine op_y (y_flda New4.fo_377_0 rfl) rfl ?_
 apply op_ld New4.sc_372 rfl rfl
 ·exact rm
 ·rfl
 first | refine op_y (y_peq (r := false) New4.un_372 rfl rfl) rfl ?_ | refine op_y (y_peq (r := true) New4.un_372 rfl rfl) rfl ?_ | refine op_y (y_peq New4.un_372 rfl rfl) rfl ?_
 refine op_nil ?_
 refine ent_then ?_
 refine cd_iff rfl ?_
 refine cd_skip ?_
 refine ent_then ?_
 refine cd_seq ?_
 refine cd_region [0, 1, 2, 0] ?_
 refine op_y (y_move rfl) rfl ?_
 apply op_lda New4.ag_151 rfl rfl
 ·exact rm
 ·(first | ((try simp only [zz, splice, Nat.reduceAdd, Nat.zero_mul, Nat.zero, rlc, pre0, ncs]) <;> rfl) | rfl)
 ·rfl
 apply op_c New4.ca_197 rfl rfl (fun e he_ => tfind_ct e t n)
 ·exact sx
 rintro _ _ ⟨rfl, rfl⟩ G_ hG_
 simp only [zn] at hG_; subst hG_
 refine op_y (y_assign rfl) rfl ?_
 refine op_nil ?_
 refine ent_then ?_
 refine cd_seq ?_
 refine cd_block ?_
 refine cd_seq ?_
 refine cd_region [1, 2, 0, 0] ?_
 apply op_lda New4.ag_151 rfl rfl
 ·exact rm
 ·(first | ((try simp only [zz, splice, Nat.reduceAdd, Nat.zero_mul, Nat.zero, rlc, pre0, ncs]) <;> rfl) | rfl)
 ·rfl
 apply op_c New4.ca_100 rfl rfl (fun e he_ => right0_ct e)
 ·exact sx
 rintro _ _ ⟨rfl, rfl⟩ G_ hG_
 simp only [zn] at hG_; subst hG_
 first | refine op_y (y_not (b := true) (r := false) rfl rfl) rfl ?_ | refine op_y (y_not (b := false) (r := true) rfl rfl) rfl ?_ | refine op_y (y_not rfl rfl) rfl ?_
 refine op_y (y_assign rfl) rfl ?_
 refine op_nil ?_
 refine ent_then ?_
 refine cd_iff rfl ?_
 refine cd_seq ?_
 refine cd_region [0, 0, 0, 0, 0, 0, 1, 0, 0] ?_
 refine op_y (y_move rfl) rfl ?_
 first | refine op_y (y_pne (r := false) New4.un_372 rfl rfl) rfl ?_ | refine op_y (y_pne (r := true) New4.un_372 rfl rfl) rfl ?_ | refine op_y (y_pne New4.un_372 rfl rfl) rfl ?_
 refine op_y (y_move rfl) rfl ?_
 first
  | refine op_s1 rfl rfl ⟨rfl, rfl⟩ ?_
  | refine op_s2 rfl rfl ⟨rfl, rfl⟩ ?_
  | (refine op_g rfl rfl ?_
     refine op_y (y_move rfl) rfl ?_)
 first
  | refine op_s1 rfl rfl ⟨rfl, rfl⟩ ?_
  | refine op_s2 rfl rfl ⟨rfl, rfl⟩ ?_
  | (refine op_g rfl rfl ?_
     first | refine op_y (y_nil rfl) rfl ?_ | refine op_y (y_nili rfl) rfl ?_ | refine op_y (y_nilf rfl) rfl ?_)
 first
  | refine op_s1 rfl rfl ⟨rfl, rfl⟩ ?_
  | refine op_s2 rfl rfl ⟨rfl, rfl⟩ ?_
  | (refine op_g rfl rfl ?_
     first | refine op_y (y_fld New4.fo_375_1 rfl) rfl ?_ | refine op_y (y_flda New4.fo_375_1 rfl) rfl ?_)
 first
  | refine op_s1 rfl rfl ⟨rfl, rfl⟩ ?_
  | refine op_s2 rfl rfl ⟨rfl, rfl⟩ ?_
  | (refine op_g rfl rfl ?_
     apply op_ld New4.sc_4 rfl rfl
     ·exact rm
     ·rfl)
 first | refine op_y (y_pickt rfl rfl) rfl ?_ | refine op_y (y_pickf rfl rfl) rfl ?_ | refine op_y (y_pick rfl rfl rfl) rfl ?_
 refine op_y (y_assign rfl) rfl ?_
 refine op_nil ?_
 refine ent_then ?_
 refine cd_iff rfl ?_
 refine cd_seq ?_
 refine cd_region [0, 0, 0, 1, 0, 0] ?_
 refine op_y (y_move rfl) rfl ?_
 first | refine op_y (y_nil rfl) rfl ?_ | refine op_y (y_nili rfl) rfl ?_ | refine op_y (y_nilf rfl) rfl ?_
 first | refine op_y (y_fld New4.fo_377_1 rfl) rfl ?_ | refine op_y (y_flda New4.fo_377_1 rfl) rfl ?_
 apply op_ld New4.sc_3 rfl rfl
 ·exact rm
 ·rfl
 first | refine op_y (y_ge rfl rfl (decide_eq_true (by omega))) rfl ?_ | refine op_y (y_ge rfl rfl (decide_eq_false (by omega))) rfl ?_ | refine op_y (y_ge rfl rfl rfl) rfl ?_
 refine op_y (y_assign rfl) rfl ?_
 refine op_nil ?_
 refine ent_then ?_
 refine cd_iff rfl ?_
 refine cd_seq ?_
 refine cd_region [0, 0, 0] ?_
 refine op_y (y_move rfl) rfl ?_
 first | refine op_y (y_pne (r := false) New4.un_372 rfl rfl) rfl ?_ | refine op_y (y_pne (r := true) New4.un_372 rfl rfl) rfl ?_ | refine op_y (y_pne New4.un_372 rfl rfl) rfl ?_
 refine op_y (y_assign rfl) rfl ?_
 refine op_nil ?_
 refine ent_then ?_
 refine cd_ift rfl ?_
 refine cd_region [0, 0, 0, 0, 0, 2, 0, 0, 2] ?_
 refine op_y (y_move rfl) rfl ?_
 refine op_y (y_move rfl) rfl ?_
 refine op_y (y_move rfl) rfl ?_
 first | refine op_y (y_nil rfl) rfl ?_ | refine op_y (y_nili rfl) rfl ?_ | refine op_y (y_nilf rfl) rfl ?_
 first | refine op_y (y_fld New4.fo_375_1 rfl) rfl ?_ | refine op_y (y_flda New4.fo_375_1 rfl) rfl ?_
 apply op_st1 New4.sz_4 rfl rfl rfl
 ·exact rm
 ·rfl
 ·(first | ((try simp only [zz, splice, Nat.reduceAdd, Nat.zero_mul, Nat.zero, rlc, pre0, ncs]) <;> rfl) | rfl)
 first | refine op_y (y_nil rfl) rfl ?_ | refine op_y (y_nili rfl) rfl ?_ | refine op_y (y_nilf rfl) rfl ?_
 first | refine op_y (y_fld New4.fo_375_2 rfl) rfl ?_ | refine op_y (y_flda New4.fo_375_2 rfl) rfl ?_
 apply op_st1 New4.sz_315 rfl rfl rfl
 ·exact rm
 ·rfl
 ·(first | ((try simp only [zz, splice, Nat.reduceAdd, Nat.zero_mul, Nat.zero, rlc, pre0, ncs]) <;> rfl) | rfl)
 refine op_nil ?_
 refine ent_block ?_
 refine ent_then ?_
 refine cd_seq ?_
 refine cd_region [0, 0, 0, 1, 0, 0, 0, 2] ?_
 refine op_y (y_move rfl) rfl ?_
 first | refine op_y (y_nil rfl) rfl ?_ | refine op_y (y_nili rfl) rfl ?_ | refine op_y (y_nilf rfl) rfl ?_
 first | refine op_y (y_fld New4.fo_377_1 rfl) rfl ?_ | refine op_y (y_flda New4.fo_377_1 rfl) rfl ?_
 apply op_ld New4.sc_3 rfl rfl
 ·exact rm
 ·rfl
 first | refine op_y (y_add rfl rfl (wi64 (by omega) (by omega))) rfl ?_ | refine op_y (y_add rfl rfl rfl) rfl ?_
 first | refine op_y (y_nil rfl) rfl ?_ | refine op_y (y_nili rfl) rfl ?_ | refine op_y (y_nilf rfl) rfl ?_
 first | refine op_y (y_fld New4.fo_377_1 rfl) rfl ?_ | refine op_y (y_flda New4.fo_377_1 rfl) rfl ?_
 apply op_st1 New4.sz_3 rfl rfl rfl
 ·exact rm
 ·rfl
 ·(first | ((try simp only [zz, splice, Nat.reduceAdd, Nat.zero_mul, Nat.zero, rlc, pre0, ncs]) <;> rfl) | rfl)
 refine op_nil ?_
 refine ent_then ?_
 refine cd_seq ?_
 refine cd_region [0] ?_
 refine op_y (y_assign rfl) rfl ?_
 refine op_nil ?_
 refine ent_then ?_
 refine cd_ret ?_
 refine ent_ret1 rfl rfl ⟨_, ⟨rfl, rfl⟩, fun w h => trieI_shut n ?_⟩
 replace h : Sat [pt t 377 [.pointer (some ⟨n, 0, none⟩), .int .i64 1], pt n 375 (ncs 1), pt b4 151 pre0] c w := h
 apply Sat.only (h := h)
 exact sx
theorem pfs_ct (c : Cx) (bc k : Nat) : Ct Tryz.prog 93 #[.slice (some ⟨bc, 0, none⟩) 1 k, .func (.func 94) #[] #[]] c [pt bc 153 rlc] fun v L => ∃ t, v = .pointer (some ⟨t, 0, none⟩) ∧ L = [trieI t 1, pt bc 153 rlc] := by
 refine ct_fn (args := [.slice (some ⟨bc, 0, none⟩) 1 k, .func (.func 94) #[] #[]]) [(0, .slice (some ⟨bc, 0, none⟩) 1 k), (1, .func (.func 94) #[] #[])] Tryz.func93 rfl Tryz.ntmps93 rfl ⟨rfl, rfl, trivial⟩ ?_
 refine cd_seq ?_
 refine cd_region [0] ?_
 refine op_y (y_assign rfl) rfl ?_
 refine op_nil ?_
 refine ent_then ?_
 refine cd_seq ?_
 refine cd_region [2, 0] ?_
 apply op_c New4.ca_155 rfl rfl (fun e he_ => trNew_ct e)
 ·exact sx
 rintro _ _ ⟨t, n, rfl, rfl⟩ G_ hG_
 simp only [zn] at hG_; subst hG_
 refine op_y (y_assign rfl) rfl ?_
 refine op_nil ?_
 refine ent_then ?_
 refine cd_seq ?_
 refine cd_seq ?_
 refine cd_region [0, 0, 0] ?_
 refine op_y (y_move rfl) rfl ?_
 refine op_y (y_len New4.un_26 rfl) rfl ?_
 refine op_y (y_move rfl) rfl ?_
 refine op_nil ?_
 refine ent_then ?_
 refine cd_block ?_
 refine cd_rounds 1 ?_
 refine cd_seq ?_
 refine cd_region [0] ?_
 first | refine op_y (y_lt rfl rfl (decide_eq_true (by omega))) rfl ?_ | refine op_y (y_lt rfl rfl (decide_eq_false (by omega))) rfl ?_ | refine op_y (y_lt rfl rfl rfl) rfl ?_
 refine op_nil ?_
 refine ent_then ?_
 refine cd_seq ?_
 refine cd_ift rfl ?_
 refine cd_skip ?_
 refine ent_then ?_
 refine cd_seq ?_
 refine cd_block ?_
 refine cd_seq ?_
 refine cd_region [0, 1, 2, 2] ?_
 first | refine op_y (y_ix0 (j := 0) New4.sl_26 rfl rfl (by omega) (by omega)) rfl ?_ | refine op_y (y_ix (j := 0) New4.sl_26 rfl rfl (by omega) (by omega)) rfl ?_ | refine op_y (y_ixa (j := 0) New4.sl_26 rfl rfl (by omega) (by omega)) rfl ?_
 apply op_lda New4.ag_153 rfl rfl
 ·exact rm
 ·(first | ((try simp only [zz, splice, Nat.reduceAdd, Nat.zero_mul, Nat.zero, rlc, pre0, ncs]) <;> rfl) | rfl)
 ·rfl
 refine op_alloc New4.ze_153 rfl fun b7 => ?_
 apply op_sta New4.sz_153 rfl rfl rfl rfl
 ·exact rm
 ·simp
 ·(first | ((try simp only [zz, splice, Nat.reduceAdd, Nat.zero_mul, Nat.zero, rlc, pre0, ncs]) <;> rfl) | rfl)
 refine op_nil ?_
 refine ent_then ?_
 refine cd_seq ?_
 refine cd_region [0] ?_
 refine op_y (y_assign rfl) rfl ?_
 refine op_nil ?_
 refine ent_then ?_
 refine cd_seq ?_
 refine cd_seq ?_
 refine cd_region [0, 0, 0] ?_
 refine op_y (y_move rfl) rfl ?_
 refine op_y (y_len New4.un_26 rfl) rfl ?_
 refine op_y (y_move rfl) rfl ?_
 refine op_nil ?_
 refine ent_then ?_
 refine cd_block ?_
 refine cd_rounds 1 ?_
 refine cd_seq ?_
 refine cd_region [0] ?_
 first | refine op_y (y_lt rfl rfl (decide_eq_true (by omega))) rfl ?_ | refine op_y (y_lt rfl rfl (decide_eq_false (by omega))) rfl ?_ | refine op_y (y_lt rfl rfl rfl) rfl ?_
 refine op_nil ?_
 refine ent_then ?_
 refine cd_seq ?_
 refine cd_ift rfl ?_
 refine cd_skip ?_
 refine ent_then ?_
 refine cd_seq ?_
 refine cd_block ?_
 refine cd_seq ?_
 refine cd_region [0, 0, 1, 2, 0, 2] ?_
 refine op_y (y_move rfl) rfl ?_
 first | refine op_y (y_ix0 (j := 0) New4.sl_26 rfl rfl (by omega) (by omega)) rfl ?_ | refine op_y (y_ix (j := 0) New4.sl_26 rfl rfl (by omega) (by omega)) rfl ?_ | refine op_y (y_ixa (j := 0) New4.sl_26 rfl rfl (by omega) (by omega)) rfl ?_
 apply op_lda New4.ag_153 rfl rfl
 ·exact rm
 ·(first | ((try simp only [zz, splice, Nat.reduceAdd, Nat.zero_mul, Nat.zero, rlc, pre0, ncs]) <;> rfl) | rfl)
 ·rfl
 refine op_alloc New4.ze_153 rfl fun b10 => ?_
 refine op_y (y_assign rfl) rfl ?_
 apply op_sta New4.sz_153 rfl rfl rfl rfl
 ·exact rm
 ·simp
 ·(first | ((try simp only [zz, splice, Nat.reduceAdd, Nat.zero_mul, Nat.zero, rlc, pre0, ncs]) <;> rfl) | rfl)
 refine op_nil ?_
 refine ent_then ?_
 refine cd_seq ?_
 refine cd_draw ([pt b10 153 rlc, pt b7 153 rlc]) [0, 1, 3, 4, 2, 5, 6] [0, 1, 0, 3, 4, 2, 2] mixed_ (by kernel_rfl) ?_
 refine op_y (y_move rfl) rfl ?_
 apply op_lda New4.ag_153 rfl rfl
 ·exact rm
 ·(first | ((try simp only [zz, splice, Nat.reduceAdd, Nat.zero_mul, Nat.zero, rlc, pre0, ncs]) <;> rfl) | rfl)
 ·rfl
 refine op_y (y_move rfl) rfl ?_
 apply op_ldas New4.ag_153 rfl rfl
 ·exact rm
 ·(first | ((try simp only [zz, splice, Nat.reduceAdd, Nat.zero_mul, Nat.zero, rlc, pre0, ncs]) <;> rfl) | rfl)
 ·rfl
 ·(first | exact fun w h => h | exact fun w h => h.drop | (intro w h; apply Sat.only (h := h); exact sx))
 apply op_cv4 (f := 94) (vs := [_]) (cap := []) New4.ca_94 rfl rfl rfl rfl (fun e he_ => src_ct e)
 ·exact sx
 rintro _ _ ⟨rfl, rfl⟩ G_ hG_
 simp only [zn] at hG_; subst hG_
 refine ⟨by (first | exact fun w h => h | exact fun w h => h.drop | (intro w h; apply Sat.only (h := h); exact sx)), ?_⟩
 apply op_cv (f := 94) (vs := [_]) (cap := []) New4.ca_94 rfl rfl rfl rfl (fun e he_ => src_ct e)
 ·exact sx
 rintro _ _ ⟨rfl, rfl⟩ G_ hG_
 simp only [zn] at hG_; subst hG_
 apply op_c New4.ca_156 rfl rfl (fun e he_ => cov0_ct e)
 ·exact sx
 rintro _ _ ⟨rfl, rfl⟩ G_ hG_
 simp only [zn] at hG_; subst hG_
 refine op_nil ?_
 refine ent_then ?_
 refine cd_ift rfl ?_
 refine cd_region [0, 0, 0, 0, 0] ?_
 refine op_y (y_move rfl) rfl ?_
 refine op_y (y_move rfl) rfl ?_
 refine op_y (y_shl (r := 1) rfl rfl (by decide) (by decide)) rfl ?_
 refine op_y (y_or (r := 1) rfl rfl (by decide)) rfl ?_
 refine op_y (y_assign rfl) rfl ?_
 refine op_nil ?_
 refine ent_block ?_
 refine ent_then ?_
 refine cd_region [0, 0] ?_
 first | refine op_y (y_add rfl rfl (wi64 (by omega) (by omega))) rfl ?_ | refine op_y (y_add rfl rfl rfl) rfl ?_
 refine op_y (y_move rfl) rfl ?_
 refine op_nil ?_
 refine ent_round ?_
 refine cd_seq ?_
 refine cd_region [0] ?_
 first | refine op_y (y_lt rfl rfl (decide_eq_true (by omega))) rfl ?_ | refine op_y (y_lt rfl rfl (decide_eq_false (by omega))) rfl ?_ | refine op_y (y_lt rfl rfl rfl) rfl ?_
 refine op_nil ?_
 refine ent_then ?_
 refine cd_seq ?_
 refine cd_iff rfl ?_
 refine cd_exit ?_
 refine ent_thn_exit ?_
 refine ent_then_exit ?_
 refine ent_block_exit ?_
 refine ent_then ?_
 refine cd_region [0, 0, 1, 2, 0, 2] ?_
 refine op_y (y_move rfl) rfl ?_
 refine op_y (y_move rfl) rfl ?_
 apply op_lda New4.ag_153 rfl rfl
 ·exact rm
 ·(first | ((try simp only [zz, splice, Nat.reduceAdd, Nat.zero_mul, Nat.zero, rlc, pre0, ncs]) <;> rfl) | rfl)
 ·rfl
 apply op_cv (f := 94) (vs := [_]) (cap := []) New4.ca_94 rfl rfl rfl rfl (fun e he_ => src_ct e)
 ·exact sx
 rintro _ _ ⟨rfl, rfl⟩ G_ hG_
 simp only [zn] at hG_; subst hG_
 refine op_y (y_move rfl) rfl ?_
 apply op_c New4.ca_157 rfl rfl (fun e he_ => tput_ct e t n)
 ·exact sx
 rintro _ _ ⟨rfl, rfl⟩ G_ hG_
 simp only [zn] at hG_; subst hG_
 refine op_nil ?_
 refine ent_block ?_
 refine ent_then ?_
 refine cd_region [0, 0] ?_
 first | refine op_y (y_add rfl rfl (wi64 (by omega) (by omega))) rfl ?_ | refine op_y (y_add rfl rfl rfl) rfl ?_
 refine op_y (y_move rfl) rfl ?_
 refine op_nil ?_
 refine ent_round ?_
 refine cd_seq ?_
 refine cd_region [0] ?_
 first | refine op_y (y_lt rfl rfl (decide_eq_true (by omega))) rfl ?_ | refine op_y (y_lt rfl rfl (decide_eq_false (by omega))) rfl ?_ | refine op_y (y_lt rfl rfl rfl) rfl ?_
 refine op_nil ?_
 refine ent_then ?_
 refine cd_seq ?_
 refine cd_iff rfl ?_
 refine cd_exit ?_
 refine ent_thn_exit ?_
 refine ent_then_exit ?_
 refine ent_block_exit ?_
 refine ent_then ?_
 refine cd_seq ?_
 refine cd_region [0, 0] ?_
 refine op_y (y_move rfl) rfl ?_
 refine op_y (y_assign rfl) rfl ?_
 refine op_nil ?_
 refine ent_then ?_
 refine cd_ret ?_
 refine ent_ret1 rfl rfl ⟨_, ⟨t, rfl, rfl⟩, fun w h => ?_⟩
 apply Sat.only (h := h)
 exact sx
theorem pfd_ct (c : Cx) (bc k : Nat) : Ct Tryz.prog 93 #[.slice (some ⟨bc, 0, none⟩) 1 k, .func (.func 95) #[] #[]] c [pt bc 153 rlc] fun v L => ∃ t, v = .pointer (some ⟨t, 0, none⟩) ∧ L = [trieI t 1, pt bc 153 rlc] := by
 refine ct_fn (args := [.slice (some ⟨bc, 0, none⟩) 1 k, .func (.func 95) #[] #[]]) [(0, .slice (some ⟨bc, 0, none⟩) 1 k), (1, .func (.func 95) #[] #[])] Tryz.func93 rfl Tryz.ntmps93 rfl ⟨rfl, rfl, trivial⟩ ?_
 refine cd_seq ?_
 refine cd_region [0] ?_
 refine op_y (y_assign rfl) rfl ?_
 refine op_nil ?_
 refine ent_then ?_
 refine cd_seq ?_
 refine cd_region [2, 0] ?_
 apply op_c New4.ca_155 rfl rfl (fun e he_ => trNew_ct e)
 ·exact sx
 rintro _ _ ⟨t, n, rfl, rfl⟩ G_ hG_
 simp only [zn] at hG_; subst hG_
 refine op_y (y_assign rfl) rfl ?_
 refine op_nil ?_
 refine ent_then ?_
 refine cd_seq ?_
 refine cd_seq ?_
 refine cd_region [0, 0, 0] ?_
 refine op_y (y_move rfl) rfl ?_
 refine op_y (y_len New4.un_26 rfl) rfl ?_
 refine op_y (y_move rfl) rfl ?_
 refine op_nil ?_
 refine ent_then ?_
 refine cd_block ?_
 refine cd_rounds 1 ?_
 refine cd_seq ?_
 refine cd_region [0] ?_
 first | refine op_y (y_lt rfl rfl (decide_eq_true (by omega))) rfl ?_ | refine op_y (y_lt rfl rfl (decide_eq_false (by omega))) rfl ?_ | refine op_y (y_lt rfl rfl rfl) rfl ?_
 refine op_nil ?_
 refine ent_then ?_
 refine cd_seq ?_
 refine cd_ift rfl ?_
 refine cd_skip ?_
 refine ent_then ?_
 refine cd_seq ?_
 refine cd_block ?_
 refine cd_seq ?_
 refine cd_region [0, 1, 2, 2] ?_
 first | refine op_y (y_ix0 (j := 0) New4.sl_26 rfl rfl (by omega) (by omega)) rfl ?_ | refine op_y (y_ix (j := 0) New4.sl_26 rfl rfl (by omega) (by omega)) rfl ?_ | refine op_y (y_ixa (j := 0) New4.sl_26 rfl rfl (by omega) (by omega)) rfl ?_
 apply op_lda New4.ag_153 rfl rfl
 ·exact rm
 ·(first | ((try simp only [zz, splice, Nat.reduceAdd, Nat.zero_mul, Nat.zero, rlc, pre0, ncs]) <;> rfl) | rfl)
 ·rfl
 refine op_alloc New4.ze_153 rfl fun b7 => ?_
 apply op_sta New4.sz_153 rfl rfl rfl rfl
 ·exact rm
 ·simp
 ·(first | ((try simp only [zz, splice, Nat.reduceAdd, Nat.zero_mul, Nat.zero, rlc, pre0, ncs]) <;> rfl) | rfl)
 refine op_nil ?_
 refine ent_then ?_
 refine cd_seq ?_
 refine cd_region [0] ?_
 refine op_y (y_assign rfl) rfl ?_
 refine op_nil ?_
 refine ent_then ?_
 refine cd_seq ?_
 refine cd_seq ?_
 refine cd_region [0, 0, 0] ?_
 refine op_y (y_move rfl) rfl ?_
 refine op_y (y_len New4.un_26 rfl) rfl ?_
 refine op_y (y_move rfl) rfl ?_
 refine op_nil ?_
 refine ent_then ?_
 refine cd_block ?_
 refine cd_rounds 1 ?_
 refine cd_seq ?_
 refine cd_region [0] ?_
 first | refine op_y (y_lt rfl rfl (decide_eq_true (by omega))) rfl ?_ | refine op_y (y_lt rfl rfl (decide_eq_false (by omega))) rfl ?_ | refine op_y (y_lt rfl rfl rfl) rfl ?_
 refine op_nil ?_
 refine ent_then ?_
 refine cd_seq ?_
 refine cd_ift rfl ?_
 refine cd_skip ?_
 refine ent_then ?_
 refine cd_seq ?_
 refine cd_block ?_
 refine cd_seq ?_
 refine cd_region [0, 0, 1, 2, 0, 2] ?_
 refine op_y (y_move rfl) rfl ?_
 first | refine op_y (y_ix0 (j := 0) New4.sl_26 rfl rfl (by omega) (by omega)) rfl ?_ | refine op_y (y_ix (j := 0) New4.sl_26 rfl rfl (by omega) (by omega)) rfl ?_ | refine op_y (y_ixa (j := 0) New4.sl_26 rfl rfl (by omega) (by omega)) rfl ?_
 apply op_lda New4.ag_153 rfl rfl
 ·exact rm
 ·(first | ((try simp only [zz, splice, Nat.reduceAdd, Nat.zero_mul, Nat.zero, rlc, pre0, ncs]) <;> rfl) | rfl)
 ·rfl
 refine op_alloc New4.ze_153 rfl fun b10 => ?_
 refine op_y (y_assign rfl) rfl ?_
 apply op_sta New4.sz_153 rfl rfl rfl rfl
 ·exact rm
 ·simp
 ·(first | ((try simp only [zz, splice, Nat.reduceAdd, Nat.zero_mul, Nat.zero, rlc, pre0, ncs]) <;> rfl) | rfl)
 refine op_nil ?_
 refine ent_then ?_
 refine cd_seq ?_
 refine cd_draw ([pt b10 153 rlc, pt b7 153 rlc]) [0, 1, 3, 4, 2, 5, 6] [0, 1, 0, 3, 4, 2, 2] mixed_ (by kernel_rfl) ?_
 refine op_y (y_move rfl) rfl ?_
 apply op_lda New4.ag_153 rfl rfl
 ·exact rm
 ·(first | ((try simp only [zz, splice, Nat.reduceAdd, Nat.zero_mul, Nat.zero, rlc, pre0, ncs]) <;> rfl) | rfl)
 ·rfl
 refine op_y (y_move rfl) rfl ?_
 apply op_ldas New4.ag_153 rfl rfl
 ·exact rm
 ·(first | ((try simp only [zz, splice, Nat.reduceAdd, Nat.zero_mul, Nat.zero, rlc, pre0, ncs]) <;> rfl) | rfl)
 ·rfl
 ·(first | exact fun w h => h | exact fun w h => h.drop | (intro w h; apply Sat.only (h := h); exact sx))
 apply op_cv4 (f := 95) (vs := [_]) (cap := []) New4.ca_95 rfl rfl rfl rfl (fun e he_ => dst_ct e)
 ·exact sx
 rintro _ _ ⟨rfl, rfl⟩ G_ hG_
 simp only [zn] at hG_; subst hG_
 refine ⟨by (first | exact fun w h => h | exact fun w h => h.drop | (intro w h; apply Sat.only (h := h); exact sx)), ?_⟩
 apply op_cv (f := 95) (vs := [_]) (cap := []) New4.ca_95 rfl rfl rfl rfl (fun e he_ => dst_ct e)
 ·exact sx
 rintro _ _ ⟨rfl, rfl⟩ G_ hG_
 simp only [zn] at hG_; subst hG_
 apply op_c New4.ca_156 rfl rfl (fun e he_ => cov0_ct e)
 ·exact sx
 rintro _ _ ⟨rfl, rfl⟩ G_ hG_
 simp only [zn] at hG_; subst hG_
 refine op_nil ?_
 refine ent_then ?_
 refine cd_ift rfl ?_
 refine cd_region [0, 0, 0, 0, 0] ?_
 refine op_y (y_move rfl) rfl ?_
 refine op_y (y_move rfl) rfl ?_
 refine op_y (y_shl (r := 1) rfl rfl (by decide) (by decide)) rfl ?_
 refine op_y (y_or (r := 1) rfl rfl (by decide)) rfl ?_
 refine op_y (y_assign rfl) rfl ?_
 refine op_nil ?_
 refine ent_block ?_
 refine ent_then ?_
 refine cd_region [0, 0] ?_
 first | refine op_y (y_add rfl rfl (wi64 (by omega) (by omega))) rfl ?_ | refine op_y (y_add rfl rfl rfl) rfl ?_
 refine op_y (y_move rfl) rfl ?_
 refine op_nil ?_
 refine ent_round ?_
 refine cd_seq ?_
 refine cd_region [0] ?_
 first | refine op_y (y_lt rfl rfl (decide_eq_true (by omega))) rfl ?_ | refine op_y (y_lt rfl rfl (decide_eq_false (by omega))) rfl ?_ | refine op_y (y_lt rfl rfl rfl) rfl ?_
 refine op_nil ?_
 refine ent_then ?_
 refine cd_seq ?_
 refine cd_iff rfl ?_
 refine cd_exit ?_
 refine ent_thn_exit ?_
 refine ent_then_exit ?_
 refine ent_block_exit ?_
 refine ent_then ?_
 refine cd_region [0, 0, 1, 2, 0, 2] ?_
 refine op_y (y_move rfl) rfl ?_
 refine op_y (y_move rfl) rfl ?_
 apply op_lda New4.ag_153 rfl rfl
 ·exact rm
 ·(first | ((try simp only [zz, splice, Nat.reduceAdd, Nat.zero_mul, Nat.zero, rlc, pre0, ncs]) <;> rfl) | rfl)
 ·rfl
 apply op_cv (f := 95) (vs := [_]) (cap := []) New4.ca_95 rfl rfl rfl rfl (fun e he_ => dst_ct e)
 ·exact sx
 rintro _ _ ⟨rfl, rfl⟩ G_ hG_
 simp only [zn] at hG_; subst hG_
 refine op_y (y_move rfl) rfl ?_
 apply op_c New4.ca_157 rfl rfl (fun e he_ => tput_ct e t n)
 ·exact sx
 rintro _ _ ⟨rfl, rfl⟩ G_ hG_
 simp only [zn] at hG_; subst hG_
 refine op_nil ?_
 refine ent_block ?_
 refine ent_then ?_
 refine cd_region [0, 0] ?_
 first | refine op_y (y_add rfl rfl (wi64 (by omega) (by omega))) rfl ?_ | refine op_y (y_add rfl rfl rfl) rfl ?_
 refine op_y (y_move rfl) rfl ?_
 refine op_nil ?_
 refine ent_round ?_
 refine cd_seq ?_
 refine cd_region [0] ?_
 first | refine op_y (y_lt rfl rfl (decide_eq_true (by omega))) rfl ?_ | refine op_y (y_lt rfl rfl (decide_eq_false (by omega))) rfl ?_ | refine op_y (y_lt rfl rfl rfl) rfl ?_
 refine op_nil ?_
 refine ent_then ?_
 refine cd_seq ?_
 refine cd_iff rfl ?_
 refine cd_exit ?_
 refine ent_thn_exit ?_
 refine ent_then_exit ?_
 refine ent_block_exit ?_
 refine ent_then ?_
 refine cd_seq ?_
 refine cd_region [0, 0] ?_
 refine op_y (y_move rfl) rfl ?_
 refine op_y (y_assign rfl) rfl ?_
 refine op_nil ?_
 refine ent_then ?_
 refine cd_ret ?_
 refine ent_ret1 rfl rfl ⟨_, ⟨t, rfl, rfl⟩, fun w h => ?_⟩
 apply Sat.only (h := h)
 exact sx
end Go.Proofs.YtfkadaodnaaceaaGreatDoor
/- What one rule that holds of all headers makes: runs of ports, and the table. -/
namespace Go.Proofs.YtfkadaodnaaceaaGreatDoor
open Go Go.SL
theorem New5.ca_199 : callable Tryz.prog 199 = true := by kernel_rfl
theorem New5.ca_200 : callable Tryz.prog 200 = true := by kernel_rfl
theorem New5.ca_224 : callable Tryz.prog 224 = true := by kernel_rfl
theorem New5.ca_230 : callable Tryz.prog 230 = true := by kernel_rfl
theorem New5.ca_234 : callable Tryz.prog 234 = true := by kernel_rfl
theorem New5.ca_245 : callable Tryz.prog 245 = true := by kernel_rfl
theorem New5.sc_41 : scalarT Tryz.prog 41 = true := by kernel_rfl
theorem New5.sl_281 : sliceK Tryz.prog 281 = some (41, 1, 2) := by kernel_rfl
theorem New5.un_3 : Tryz.prog.underlying 3 = some (.int .i64) := by kernel_rfl
theorem New5.un_5 : Tryz.prog.underlying 5 = some (.int .u8) := by kernel_rfl
theorem New5.un_22 : Tryz.prog.underlying 22 = some (.int .u64) := by kernel_rfl
theorem New5.un_201 : Tryz.prog.underlying 201 = some (.int .u64) := by kernel_rfl
theorem New5.un_281 : Tryz.prog.underlying 281 = some (.slice 41) := by kernel_rfl
set_option maxRecDepth 100000
set_option maxHeartbeats 1000000
theorem isNaN0_ct (c : Cx) : Ct Tryz.prog 245 #[.int .u16 0] c [] fun v L => v = .bool false ∧ L = [] := by
 refine ct_fn (args := [.int .u16 0]) [(0, .int .u16 0)] Tryz.func245 rfl Tryz.ntmps245 rfl ⟨rfl, trivial⟩ ?_
 refine cd_seq ?_
 refine cd_region [0] ?_
 refine op_y (y_assign rfl) rfl ?_
 refine op_nil ?_
 refine ent_then ?_
 refine cd_seq ?_
 refine cd_region [0, 0, 0, 0] ?_
 refine op_y (y_move rfl) rfl ?_
 refine op_y (y_move rfl) rfl ?_
 first | refine op_y (y_ne rfl rfl (neT (by omega))) rfl ?_ | refine op_y (y_ne rfl rfl (neF (by omega))) rfl ?_ | refine op_y (y_ne rfl rfl rfl) rfl ?_
 refine op_y (y_assign rfl) rfl ?_
 refine op_nil ?_
 refine ent_then ?_
 refine cd_ret ?_
 refine ent_ret1 rfl rfl ⟨_, ⟨rfl, rfl⟩, fun w h => h⟩
theorem less0_ct (c : Cx) : Ct Tryz.prog 230 #[.int .u16 0, .int .u16 0] c [] fun v L => v = .bool false ∧ L = [] := by
 refine ct_fn (args := [.int .u16 0, .int .u16 0]) [(0, .int .u16 0), (1, .int .u16 0)] Tryz.func230 rfl Tryz.ntmps230 rfl ⟨rfl, rfl, trivial⟩ ?_
 refine cd_seq ?_
 refine cd_region [0] ?_
 refine op_y (y_assign rfl) rfl ?_
 refine op_nil ?_
 refine ent_then ?_
 refine cd_seq ?_
 refine cd_region [0, 2, 0, 0, 2, 0, 0, 0, 0, 0, 0, 0, 0] ?_
 refine op_y (y_move rfl) rfl ?_
 apply op_c New5.ca_245 rfl rfl (fun e he_ => isNaN0_ct e)
 ·exact sx
 rintro _ _ ⟨rfl, rfl⟩ G_ hG_
 simp only [zn] at hG_; subst hG_
 refine op_y (y_move rfl) rfl ?_
 first
  | refine op_s1 rfl rfl ⟨rfl, rfl⟩ ?_
  | refine op_s2 rfl rfl ⟨rfl, rfl⟩ ?_
  | (refine op_g rfl rfl ?_
     refine op_y (y_move rfl) rfl ?_)
 first | refine op_s1 rfl rfl ⟨rfl, rfl⟩ ?_ | refine op_s2 rfl rfl ⟨rfl, rfl⟩ ?_
 first
  | refine op_s1 rfl rfl ⟨rfl, rfl⟩ ?_
  | refine op_s2 rfl rfl ⟨rfl, rfl⟩ ?_
  | (refine op_g rfl rfl ?_
     first | refine op_y (y_not (b := true) (r := false) rfl rfl) rfl ?_ | refine op_y (y_not (b := false) (r := true) rfl rfl) rfl ?_ | refine op_y (y_not rfl rfl) rfl ?_)
 first | refine op_y (y_pickt rfl rfl) rfl ?_ | refine op_y (y_pickf rfl rfl) rfl ?_ | refine op_y (y_pick rfl rfl rfl) rfl ?_
 refine op_y (y_move rfl) rfl ?_
 first
  | refine op_s1 rfl rfl ⟨rfl, rfl⟩ ?_
  | refine op_s2 rfl rfl ⟨rfl, rfl⟩ ?_
  | (refine op_g rfl rfl ?_
     refine op_y (y_move rfl) rfl ?_)
 first
  | refine op_s1 rfl rfl ⟨rfl, rfl⟩ ?_
  | refine op_s2 rfl rfl ⟨rfl, rfl⟩ ?_
  | (refine op_g rfl rfl ?_
     refine op_y (y_move rfl) rfl ?_)
 first
  | refine op_s1 rfl rfl ⟨rfl, rfl⟩ ?_
  | refine op_s2 rfl rfl ⟨rfl, rfl⟩ ?_
  | (refine op_g rfl rfl ?_
     first | refine op_y (y_lt rfl rfl (decide_eq_true (by omega))) rfl ?_ | refine op_y (y_lt rfl rfl (decide_eq_false (by omega))) rfl ?_ | refine op_y (y_lt rfl rfl rfl) rfl ?_)
 first | refine op_y (y_pickt rfl rfl) rfl ?_ | refine op_y (y_pickf rfl rfl) rfl ?_ | refine op_y (y_pick rfl rfl rfl) rfl ?_
 refine op_y (y_assign rfl) rfl ?_
 refine op_nil ?_
 refine ent_then ?_
 refine cd_ret ?_
 refine ent_ret1 rfl rfl ⟨_, ⟨rfl, rfl⟩, fun w h => h⟩
abbrev twoZ (r : List Value) : List Value := .int .u16 0 :: .int .u16 0 :: r
theorem ins_ct (c : Cx) (b k : Nat) (r : List Value) : Ct Tryz.prog 224 #[.slice (some ⟨b, 0, none⟩) 2 k, .int .i64 0, .int .i64 2] c [pt b 41 (twoZ r)] fun v L => v = .tuple #[] ∧ L = [pt b 41 (twoZ r)] := by
 refine ct_fn (args := [.slice (some ⟨b, 0, none⟩) 2 k, .int .i64 0, .int .i64 2]) [(0, .slice (some ⟨b, 0, none⟩) 2 k), (1, .int .i64 0), (2, .int .i64 2)] Tryz.func224 rfl Tryz.ntmps224 rfl ⟨rfl, rfl, rfl, trivial⟩ ?_
 refine cd_seq ?_
 refine cd_region [0, 0, 0] ?_
 refine op_y (y_move rfl) rfl ?_
 first | refine op_y (y_add rfl rfl (wi64 (by omega) (by omega))) rfl ?_ | refine op_y (y_add rfl rfl rfl) rfl ?_
 refine op_y (y_assign rfl) rfl ?_
 refine op_nil ?_
 refine ent_then ?_
 refine cd_block ?_
 refine cd_rounds 1 ?_
 refine cd_seq ?_
 refine cd_seq ?_
 refine cd_region [0, 0, 0] ?_
 refine op_y (y_move rfl) rfl ?_
 refine op_y (y_move rfl) rfl ?_
 first | refine op_y (y_lt rfl rfl (decide_eq_true (by omega))) rfl ?_ | refine op_y (y_lt rfl rfl (decide_eq_false (by omega))) rfl ?_ | refine op_y (y_lt rfl rfl rfl) rfl ?_
 refine op_nil ?_
 refine ent_then ?_
 refine cd_ift rfl ?_
 refine cd_skip ?_
 refine ent_then ?_
 refine cd_seq ?_
 refine cd_block ?_
 refine cd_seq ?_
 refine cd_region [0, 0] ?_
 refine op_y (y_move rfl) rfl ?_
 refine op_y (y_assign rfl) rfl ?_
 refine op_nil ?_
 refine ent_then ?_
 refine cd_block ?_
 refine cd_rounds 0 ?_
 refine cd_seq ?_
 refine cd_seq ?_
 refine cd_draw ([]) [0, 1, 2, 3, 4, 5, 6, 7, 8, 9, 10, 11, 12, 13, 14] [0, 0, 0, 0, 0, 0, 0, 1, 0, 0, 0, 0, 1, 2, 0] mixed_ (by kernel_rfl) ?_
 refine op_y (y_move rfl) rfl ?_
 refine op_y (y_move rfl) rfl ?_
 first | refine op_y (y_gt rfl rfl (decide_eq_true (by omega))) rfl ?_ | refine op_y (y_gt rfl rfl (decide_eq_false (by omega))) rfl ?_ | refine op_y (y_gt rfl rfl rfl) rfl ?_
 refine op_y (y_move rfl) rfl ?_
 first
  | refine op_s1 rfl rfl ⟨rfl, rfl⟩ ?_
  | refine op_s2 rfl rfl ⟨rfl, rfl⟩ ?_
  | (refine op_g rfl rfl ?_
     refine op_y (y_move rfl) rfl ?_)
 first
  | refine op_s1 rfl rfl ⟨rfl, rfl⟩ ?_
  | refine op_s2 rfl rfl ⟨rfl, rfl⟩ ?_
  | (refine op_g rfl rfl ?_
     refine op_y (y_move rfl) rfl ?_)
 refine op_g rfl rfl ?_
 first | refine op_y (y_ix0 (j := 1) New5.sl_281 rfl rfl (by omega) (by omega)) rfl ?_ | refine op_y (y_ix (j := 1) New5.sl_281 rfl rfl (by omega) (by omega)) rfl ?_ | refine op_y (y_ixa (j := 1) New5.sl_281 rfl rfl (by omega) (by omega)) rfl ?_
 first
  | refine op_s1 rfl rfl ⟨rfl, rfl⟩ ?_
  | refine op_s2 rfl rfl ⟨rfl, rfl⟩ ?_
  | (refine op_g rfl rfl ?_
     apply op_ld New5.sc_41 rfl rfl
     ·exact rm
     ·rfl)
 first
  | refine op_s1 rfl rfl ⟨rfl, rfl⟩ ?_
  | refine op_s2 rfl rfl ⟨rfl, rfl⟩ ?_
  | (refine op_g rfl rfl ?_
     refine op_y (y_move rfl) rfl ?_)
 first
  | refine op_s1 rfl rfl ⟨rfl, rfl⟩ ?_
  | refine op_s2 rfl rfl ⟨rfl, rfl⟩ ?_
  | (refine op_g rfl rfl ?_
     refine op_y (y_move rfl) rfl ?_)
 first
  | refine op_s1 rfl rfl ⟨rfl, rfl⟩ ?_
  | refine op_s2 rfl rfl ⟨rfl, rfl⟩ ?_
  | (refine op_g rfl rfl ?_
     first | refine op_y (y_sub rfl rfl (wi64 (by omega) (by omega))) rfl ?_ | refine op_y (y_sub rfl rfl rfl) rfl ?_)
 refine op_g rfl rfl ?_
 first | refine op_y (y_ix0 (j := 0) New5.sl_281 rfl rfl (by omega) (by omega)) rfl ?_ | refine op_y (y_ix (j := 0) New5.sl_281 rfl rfl (by omega) (by omega)) rfl ?_ | refine op_y (y_ixa (j := 0) New5.sl_281 rfl rfl (by omega) (by omega)) rfl ?_
 first
  | refine op_s1 rfl rfl ⟨rfl, rfl⟩ ?_
  | refine op_s2 rfl rfl ⟨rfl, rfl⟩ ?_
  | (refine op_g rfl rfl ?_
     apply op_ld New5.sc_41 rfl rfl
     ·exact rm
     ·rfl)
 refine op_g rfl rfl ?_
 apply op_c New5.ca_230 rfl rfl (fun e he_ => less0_ct e)
 ·exact sx
 rintro _ _ ⟨rfl, rfl⟩ G_ hG_
 simp only [zn] at hG_; subst hG_
 first | refine op_y (y_pickt rfl rfl) rfl ?_ | refine op_y (y_pickf rfl rfl) rfl ?_ | refine op_y (y_pick rfl rfl rfl) rfl ?_
 refine op_nil ?_
 refine ent_then ?_
 refine cd_iff rfl ?_
 refine cd_exit ?_
 refine ent_thn_exit ?_
 refine ent_then_exit ?_
 refine ent_block_exit ?_
 refine ent_block ?_
 refine ent_then ?_
 refine cd_region [0, 0, 0] ?_
 refine op_y (y_move rfl) rfl ?_
 first | refine op_y (y_add rfl rfl (wi64 (by omega) (by omega))) rfl ?_ | refine op_y (y_add rfl rfl rfl) rfl ?_
 refine op_y (y_assign rfl) rfl ?_
 refine op_nil ?_
 refine ent_round ?_
 refine cd_seq ?_
 refine cd_seq ?_
 refine cd_region [0, 0, 0] ?_
 refine op_y (y_move rfl) rfl ?_
 refine op_y (y_move rfl) rfl ?_
 first | refine op_y (y_lt rfl rfl (decide_eq_true (by omega))) rfl ?_ | refine op_y (y_lt rfl rfl (decide_eq_false (by omega))) rfl ?_ | refine op_y (y_lt rfl rfl rfl) rfl ?_
 refine op_nil ?_
 refine ent_then ?_
 refine cd_iff rfl ?_
 refine cd_exit ?_
 refine ent_thn_exit ?_
 refine ent_then_exit ?_
 refine ent_block_exit ?_
 refine ent_end0 (.inl rfl) rfl ⟨_, ⟨rfl, rfl⟩, fun w h => h⟩
theorem pdq_ct (c : Cx) (b k : Nat) (r : List Value) : Ct Tryz.prog 199 #[.slice (some ⟨b, 0, none⟩) 2 k, .int .i64 0, .int .i64 2, .int .i64 2] c [pt b 41 (twoZ r)] fun v L => v = .tuple #[] ∧ L = [pt b 41 (twoZ r)] := by
 refine ct_fn (args := [.slice (some ⟨b, 0, none⟩) 2 k, .int .i64 0, .int .i64 2, .int .i64 2]) [(0, .slice (some ⟨b, 0, none⟩) 2 k), (1, .int .i64 0), (2, .int .i64 2), (3, .int .i64 2)] Tryz.func199 rfl Tryz.ntmps199 rfl ⟨rfl, rfl, rfl, rfl, trivial⟩ ?_
 refine cd_seq ?_
 refine cd_region [0] ?_
 refine op_y (y_assign rfl) rfl ?_
 refine op_nil ?_
 refine ent_then ?_
 refine cd_seq ?_
 refine cd_region [0] ?_
 refine op_y (y_assign rfl) rfl ?_
 refine op_nil ?_
 refine ent_then ?_
 refine cd_block ?_
 refine cd_rounds 0 ?_
 refine cd_block ?_
 refine cd_seq ?_
 refine cd_region [0, 0, 0, 0] ?_
 refine op_y (y_move rfl) rfl ?_
 refine op_y (y_move rfl) rfl ?_
 first | refine op_y (y_sub rfl rfl (wi64 (by omega) (by omega))) rfl ?_ | refine op_y (y_sub rfl rfl rfl) rfl ?_
 refine op_y (y_assign rfl) rfl ?_
 refine op_nil ?_
 refine ent_then ?_
 refine cd_seq ?_
 refine cd_seq ?_
 refine cd_region [0, 0] ?_
 refine op_y (y_move rfl) rfl ?_
 first | refine op_y (y_le rfl rfl (decide_eq_true (by omega))) rfl ?_ | refine op_y (y_le rfl rfl (decide_eq_false (by omega))) rfl ?_ | refine op_y (y_le rfl rfl rfl) rfl ?_
 refine op_nil ?_
 refine ent_then ?_
 refine cd_ift rfl ?_
 refine cd_seq ?_
 refine cd_region [0, 0, 0, 2] ?_
 refine op_y (y_move rfl) rfl ?_
 refine op_y (y_move rfl) rfl ?_
 refine op_y (y_move rfl) rfl ?_
 apply op_c New5.ca_224 rfl rfl (fun e he_ => ins_ct e b k r)
 ·exact sx
 rintro _ _ ⟨rfl, rfl⟩ G_ hG_
 simp only [zn] at hG_; subst hG_
 refine op_nil ?_
 refine ent_then ?_
 refine cd_ret ?_
 refine ent_thn_ret ?_
 refine ent_block_ret ?_
 refine ent_then_ret ?_
 refine ent_block_ret ?_
 refine ent_end0 (.inr rfl) rfl ⟨_, ⟨rfl, rfl⟩, fun w h => h⟩
theorem len64_ct (c : Cx) : Ct Tryz.prog 234 #[.int .u64 2] c [] fun v L => v = .int .i64 2 ∧ L = [] := by
 refine ct_fn (args := [.int .u64 2]) [(0, .int .u64 2)] Tryz.func234 rfl Tryz.ntmps234 rfl ⟨rfl, trivial⟩ ?_
 refine cd_seq ?_
 refine cd_region [0] ?_
 refine op_y (y_assign rfl) rfl ?_
 refine op_nil ?_
 refine ent_then ?_
 refine cd_seq ?_
 refine cd_seq ?_
 refine cd_region [0, 0] ?_
 refine op_y (y_move rfl) rfl ?_
 first | refine op_y (y_ge rfl rfl (decide_eq_true (by omega))) rfl ?_ | refine op_y (y_ge rfl rfl (decide_eq_false (by omega))) rfl ?_ | refine op_y (y_ge rfl rfl rfl) rfl ?_
 refine op_nil ?_
 refine ent_then ?_
 refine cd_iff rfl ?_
 refine cd_skip ?_
 refine ent_then ?_
 refine cd_seq ?_
 refine cd_seq ?_
 refine cd_region [0, 0] ?_
 refine op_y (y_move rfl) rfl ?_
 first | refine op_y (y_ge rfl rfl (decide_eq_true (by omega))) rfl ?_ | refine op_y (y_ge rfl rfl (decide_eq_false (by omega))) rfl ?_ | refine op_y (y_ge rfl rfl rfl) rfl ?_
 refine op_nil ?_
 refine ent_then ?_
 refine cd_iff rfl ?_
 refine cd_skip ?_
 refine ent_then ?_
 refine cd_seq ?_
 refine cd_seq ?_
 refine cd_region [0, 0] ?_
 refine op_y (y_move rfl) rfl ?_
 first | refine op_y (y_ge rfl rfl (decide_eq_true (by omega))) rfl ?_ | refine op_y (y_ge rfl rfl (decide_eq_false (by omega))) rfl ?_ | refine op_y (y_ge rfl rfl rfl) rfl ?_
 refine op_nil ?_
 refine ent_then ?_
 refine cd_iff rfl ?_
 refine cd_skip ?_
 refine ent_then ?_
 refine cd_seq ?_
 refine cd_region [0, 0, 0, 0, 0, 0, 0] ?_
 refine op_y (y_move rfl) rfl ?_
 refine op_y (y_move rfl) rfl ?_
 first | refine op_y (y_conv New5.un_22 New5.un_5 rfl (wu8 (by omega) (by omega))) rfl ?_ | refine op_y (y_conv New5.un_22 New5.un_5 rfl rfl) rfl ?_
 refine op_y (y_sidxc (j := 2) (k := 2) (by kernel_rfl) rfl rfl rfl (by kernel_rfl)) rfl ?_
 first | refine op_y (y_conv New5.un_5 New5.un_3 rfl (wi64 (by omega) (by omega))) rfl ?_ | refine op_y (y_conv New5.un_5 New5.un_3 rfl rfl) rfl ?_
 first | refine op_y (y_add rfl rfl (wi64 (by omega) (by omega))) rfl ?_ | refine op_y (y_add rfl rfl rfl) rfl ?_
 refine op_y (y_assign rfl) rfl ?_
 refine op_nil ?_
 refine ent_then ?_
 refine cd_ret ?_
 refine ent_ret1 rfl rfl ⟨_, ⟨rfl, rfl⟩, fun w h => h⟩
theorem len_ct (c : Cx) : Ct Tryz.prog 200 #[.int .u64 2] c [] fun v L => v = .int .i64 2 ∧ L = [] := by
 refine ct_fn (args := [.int .u64 2]) [(0, .int .u64 2)] Tryz.func200 rfl Tryz.ntmps200 rfl ⟨rfl, trivial⟩ ?_
 refine cd_seq ?_
 refine cd_region [0] ?_
 refine op_y (y_assign rfl) rfl ?_
 refine op_nil ?_
 refine ent_then ?_
 refine cd_seq ?_
 refine cd_iff rfl ?_
 refine cd_skip ?_
 refine ent_then ?_
 refine cd_seq ?_
 refine cd_region [0, 2, 0] ?_
 refine op_y (y_move rfl) rfl ?_
 apply op_c New5.ca_234 rfl rfl (fun e he_ => len64_ct e)
 ·exact sx
 rintro _ _ ⟨rfl, rfl⟩ G_ hG_
 simp only [zn] at hG_; subst hG_
 refine op_y (y_assign rfl) rfl ?_
 refine op_nil ?_
 refine ent_then ?_
 refine cd_ret ?_
 refine ent_ret1 rfl rfl ⟨_, ⟨rfl, rfl⟩, fun w h => h⟩
theorem sort_ct (c : Cx) (b k : Nat) (r : List Value) : Ct Tryz.prog 158 #[.slice (some ⟨b, 0, none⟩) 2 k] c [pt b 41 (twoZ r)] fun v L => v = .tuple #[] ∧ L = [pt b 41 (twoZ r)] := by
 refine ct_fn (args := [.slice (some ⟨b, 0, none⟩) 2 k]) [(0, .slice (some ⟨b, 0, none⟩) 2 k)] Tryz.func158 rfl Tryz.ntmps158 rfl ⟨rfl, trivial⟩ ?_
 refine cd_seq ?_
 refine cd_region [0, 0, 0] ?_
 refine op_y (y_move rfl) rfl ?_
 refine op_y (y_len New5.un_281 rfl) rfl ?_
 refine op_y (y_assign rfl) rfl ?_
 refine op_nil ?_
 refine ent_then ?_
 refine cd_region [0, 0, 0, 0, 2, 2] ?_
 refine op_y (y_move rfl) rfl ?_
 refine op_y (y_move rfl) rfl ?_
 refine op_y (y_move rfl) rfl ?_
 first | refine op_y (y_conv New5.un_3 New5.un_201 rfl (wu64 (by omega) (by omega))) rfl ?_ | refine op_y (y_conv New5.un_3 New5.un_201 rfl rfl) rfl ?_
 apply op_c New5.ca_200 rfl rfl (fun e he_ => len_ct e)
 ·exact sx
 rintro _ _ ⟨rfl, rfl⟩ G_ hG_
 simp only [zn] at hG_; subst hG_
 apply op_c New5.ca_199 rfl rfl (fun e he_ => pdq_ct e b k r)
 ·exact sx
 rintro _ _ ⟨rfl, rfl⟩ G_ hG_
 simp only [zn] at hG_; subst hG_
 refine op_nil ?_
 refine ent_end0 (.inl rfl) rfl ⟨_, ⟨rfl, rfl⟩, fun w h => h⟩
theorem compact_ct (c : Cx) (b k : Nat) (r : List Value) (hk : 2 ≤ k) : Ct Tryz.prog 159 #[.slice (some ⟨b, 0, none⟩) 2 k] c [pt b 41 (twoZ r)] fun v L => v = .slice (some ⟨b, 0, none⟩) 1 k ∧ L = [pt b 41 (twoZ r)] := by
 have hk1 : k ≠ 1 := by omega
 refine ct_fn (args := [.slice (some ⟨b, 0, none⟩) 2 k]) [(0, .slice (some ⟨b, 0, none⟩) 2 k)] Tryz.func159 rfl Tryz.ntmps159 rfl ⟨rfl, trivial⟩ ?_
 refine cd_seq ?_
 refine cd_region [0] ?_
 refine op_y (y_assign rfl) rfl ?_
 refine op_nil ?_
 refine ent_then ?_
 refine cd_seq ?_
 refine cd_seq ?_
 refine cd_region [0, 0, 0] ?_
 refine op_y (y_move rfl) rfl ?_
 refine op_y (y_len New5.un_281 rfl) rfl ?_
 first | refine op_y (y_lt rfl rfl (decide_eq_true (by omega))) rfl ?_ | refine op_y (y_lt rfl rfl (decide_eq_false (by omega))) rfl ?_ | refine op_y (y_lt rfl rfl rfl) rfl ?_
 refine op_nil ?_
 refine ent_then ?_
 refine cd_iff rfl ?_
 refine cd_skip ?_
 refine ent_then ?_
 refine cd_seq ?_
 refine cd_seq ?_
 refine cd_region [0] ?_
 refine op_y (y_assign rfl) rfl ?_
 refine op_nil ?_
 refine ent_then ?_
 refine cd_block ?_
 refine cd_rounds 0 ?_
 refine cd_seq ?_
 refine cd_seq ?_
 refine cd_region [0, 0, 0, 0] ?_
 refine op_y (y_move rfl) rfl ?_
 refine op_y (y_move rfl) rfl ?_
 refine op_y (y_len New5.un_281 rfl) rfl ?_
 first | refine op_y (y_lt rfl rfl (decide_eq_true (by omega))) rfl ?_ | refine op_y (y_lt rfl rfl (decide_eq_false (by omega))) rfl ?_ | refine op_y (y_lt rfl rfl rfl) rfl ?_
 refine op_nil ?_
 refine ent_then ?_
 refine cd_ift rfl ?_
 refine cd_skip ?_
 refine ent_then ?_
 refine cd_seq ?_
 refine cd_block ?_
 refine cd_seq ?_
 refine cd_draw ([]) [0, 1, 2, 3, 4, 5, 6, 7, 8, 9] [0, 0, 0, 1, 0, 0, 0, 0, 1, 0] mixed_ (by kernel_rfl) ?_
 refine op_y (y_move rfl) rfl ?_
 refine op_y (y_move rfl) rfl ?_
 first | refine op_y (y_ix0 (j := 1) New5.sl_281 rfl rfl (by omega) (by omega)) rfl ?_ | refine op_y (y_ix (j := 1) New5.sl_281 rfl rfl (by omega) (by omega)) rfl ?_ | refine op_y (y_ixa (j := 1) New5.sl_281 rfl rfl (by omega) (by omega)) rfl ?_
 apply op_ld New5.sc_41 rfl rfl
 ·exact rm
 ·rfl
 refine op_y (y_move rfl) rfl ?_
 refine op_y (y_move rfl) rfl ?_
 first | refine op_y (y_sub rfl rfl (wi64 (by omega) (by omega))) rfl ?_ | refine op_y (y_sub rfl rfl rfl) rfl ?_
 first | refine op_y (y_ix0 (j := 0) New5.sl_281 rfl rfl (by omega) (by omega)) rfl ?_ | refine op_y (y_ix (j := 0) New5.sl_281 rfl rfl (by omega) (by omega)) rfl ?_ | refine op_y (y_ixa (j := 0) New5.sl_281 rfl rfl (by omega) (by omega)) rfl ?_
 apply op_ld New5.sc_41 rfl rfl
 ·exact rm
 ·rfl
 first | refine op_y (y_eq rfl rfl (eqT (by omega))) rfl ?_ | refine op_y (y_eq rfl rfl (eqF (by omega))) rfl ?_ | refine op_y (y_eq rfl rfl rfl) rfl ?_
 refine op_nil ?_
 refine ent_then ?_
 refine cd_ift rfl ?_
 refine cd_seq ?_
 refine cd_region [0, 0, 0, 0] ?_
 refine op_y (y_move rfl) rfl ?_
 refine op_y (y_move rfl) rfl ?_
 refine op_y (y_slo (e := 41) (sz := 1) (bs := 2) (j := 1) (by kernel_rfl) rfl rfl rfl (by decide) hk1) rfl ?_
 refine op_y (y_assign rfl) rfl ?_
 refine op_nil ?_
 refine ent_then ?_
 refine cd_seq ?_
 refine cd_seq ?_
 refine cd_region [0] ?_
 refine op_y (y_assign rfl) rfl ?_
 refine op_nil ?_
 refine ent_then ?_
 refine cd_block ?_
 refine cd_rounds 0 ?_
 refine cd_seq ?_
 refine cd_seq ?_
 refine cd_region [0, 0, 0, 0] ?_
 refine op_y (y_move rfl) rfl ?_
 refine op_y (y_move rfl) rfl ?_
 refine op_y (y_len New5.un_281 rfl) rfl ?_
 first | refine op_y (y_lt rfl rfl (decide_eq_true (by omega))) rfl ?_ | refine op_y (y_lt rfl rfl (decide_eq_false (by omega))) rfl ?_ | refine op_y (y_lt rfl rfl rfl) rfl ?_
 refine op_nil ?_
 refine ent_then ?_
 refine cd_iff rfl ?_
 refine cd_exit ?_
 refine ent_thn_exit ?_
 refine ent_then_exit ?_
 refine ent_block_exit ?_
 refine ent_then ?_
 refine cd_seq ?_
 refine cd_region [0, 0, 0, 2] ?_
 refine op_y (y_move rfl) rfl ?_
 refine op_y (y_move rfl) rfl ?_
 refine op_y (y_slo (e := 41) (sz := 1) (bs := 2) (j := 1) (by kernel_rfl) rfl rfl rfl (by decide) hk1) rfl ?_
 refine op_clear (e := 41) (sz := 1) (by_ := 2) (z := [.int .u16 0]) (by kernel_rfl) (by kernel_rfl) rfl rfl (by decide) rfl (by decide) rfl (by exact rm) (by simp) rfl ?_
 refine op_nil ?_
 refine ent_then ?_
 refine cd_seq ?_
 refine cd_region [0, 0, 0, 0] ?_
 refine op_y (y_move rfl) rfl ?_
 refine op_y (y_move rfl) rfl ?_
 first | refine op_y (y_slh New5.sl_281 rfl rfl rfl (by omega)) rfl ?_ | refine op_y (y_slh New5.sl_281 rfl rfl (Int.toNat_of_nonneg (by omega)).symm (by omega)) rfl ?_
 refine op_y (y_assign rfl) rfl ?_
 refine op_nil ?_
 refine ent_then ?_
 refine cd_ret ?_
 refine ent_block_ret ?_
 refine ent_thn_ret ?_
 refine ent_then_ret ?_
 refine ent_block_ret ?_
 refine ent_thn_ret ?_
 refine ent_ret1 rfl rfl ⟨_, ⟨rfl, rfl⟩, fun w h => h⟩
end Go.Proofs.YtfkadaodnaaceaaGreatDoor
/- What one rule that holds of all headers makes: the table. -/
namespace Go.Proofs.YtfkadaodnaaceaaGreatDoor
open Go Go.SL
theorem New6.ag_153 : aggK Tryz.prog 153 = some 7 := by kernel_rfl
theorem New6.ca_53 : callable Tryz.prog 53 = true := by kernel_rfl
theorem New6.ca_93 : callable Tryz.prog 93 = true := by kernel_rfl
theorem New6.ca_96 : callable Tryz.prog 96 = true := by kernel_rfl
theorem New6.ca_158 : callable Tryz.prog 158 = true := by kernel_rfl
theorem New6.ca_159 : callable Tryz.prog 159 = true := by kernel_rfl
theorem New6.fo_153_2 : fieldOff Tryz.prog 153 2 = some 4 := by kernel_rfl
theorem New6.fo_153_3 : fieldOff Tryz.prog 153 3 = some 5 := by kernel_rfl
theorem New6.fo_153_4 : fieldOff Tryz.prog 153 4 = some 6 := by kernel_rfl
theorem New6.fo_226_3 : fieldOff Tryz.prog 226 3 = some 3 := by kernel_rfl
theorem New6.pl_226 : placesK Tryz.prog 226 = some [(0, 1), (1, 1), (2, 1), (3, 1)] := by kernel_rfl
theorem New6.pl_321 : placesK Tryz.prog 321 = some [(0, 1), (1, 1)] := by kernel_rfl
theorem New6.sc_41 : scalarT Tryz.prog 41 = true := by kernel_rfl
theorem New6.sc_42 : scalarT Tryz.prog 42 = true := by kernel_rfl
theorem New6.sc_224 : scalarT Tryz.prog 224 = true := by kernel_rfl
theorem New6.sl_26 : sliceK Tryz.prog 26 = some (153, 7, 40) := by kernel_rfl
theorem New6.sl_222 : sliceK Tryz.prog 222 = some (321, 2, 16) := by kernel_rfl
theorem New6.sl_224 : sliceK Tryz.prog 224 = some (42, 1, 4) := by kernel_rfl
theorem New6.sl_281 : sliceK Tryz.prog 281 = some (41, 1, 2) := by kernel_rfl
theorem New6.sz_153 : sizeK Tryz.prog 153 = some 7 := by kernel_rfl
theorem New6.sz_224 : sizeK Tryz.prog 224 = some 1 := by kernel_rfl
theorem New6.un_26 : Tryz.prog.underlying 26 = some (.slice 153) := by kernel_rfl
theorem New6.un_281 : Tryz.prog.underlying 281 = some (.slice 41) := by kernel_rfl
theorem New6.ze_41 : zeroC Tryz.prog 41 = some [.int .u16 0] := by kernel_rfl
theorem New6.ze_42 : zeroC Tryz.prog 42 = some [.int .u32 0] := by kernel_rfl
theorem New6.ze_153 : zeroC Tryz.prog 153 = some [.int .u32 0, .int .i64 0, .int .u32 0, .int .i64 0, .int .u16 0, .int .u16 0, .int .u32 0] := by kernel_rfl
theorem New6.ze_226 : zeroC Tryz.prog 226 = some [.pointer none, .pointer none, .slice none 0 0, .slice none 0 0] := by kernel_rfl
theorem New6.ze_321 : zeroC Tryz.prog 321 = some [.int .u16 0, .int .u64 0] := by kernel_rfl
set_option maxRecDepth 100000
set_option maxHeartbeats 1000000
theorem runs_ct (c : Cx) (bc k : Nat) : Ct Tryz.prog 96 #[.slice (some ⟨bc, 0, none⟩) 1 k] c [pt bc 153 rlc] fun v L => ∃ b m r, v = .slice (some ⟨b, 0, none⟩) 1 m ∧ L = [pt b 321 (.int .u16 0 :: .int .u64 1 :: r), pt bc 153 rlc] := by
 refine ct_fn (args := [.slice (some ⟨bc, 0, none⟩) 1 k]) [(0, .slice (some ⟨bc, 0, none⟩) 1 k)] Tryz.func96 rfl Tryz.ntmps96 rfl ⟨rfl, trivial⟩ ?_
 refine cd_seq ?_
 refine cd_region [0] ?_
 refine op_y (y_assign rfl) rfl ?_
 refine op_nil ?_
 refine ent_then ?_
 refine cd_seq ?_
 refine cd_region [2, 0] ?_
 apply op_bslice New6.sl_281 New6.ze_41 rfl rfl rfl rfl rfl
 ·(first | ((try simp [fillL, splice, Value.cells, Nat.zero, rlc, pre0, ncs, twoZ]) <;> rfl) | rfl)
 intro b12
 refine op_y (y_assign rfl) rfl ?_
 refine op_nil ?_
 refine ent_then ?_
 refine cd_seq ?_
 refine cd_seq ?_
 refine cd_region [0, 0, 0] ?_
 refine op_to (L' := [ownS 41 1 (some ⟨b12, 0, none⟩) 1 1 [.int .u16 0], pt bc 153 rlc]) (fun w h => ?_) ?_
 ·refine ownS_mk (r := []) rfl rfl ?_
  simp only [List.append_nil]
  apply Sat.only (h := h)
  exact sx
 refine op_y (y_move rfl) rfl ?_
 refine op_y (y_len New6.un_26 rfl) rfl ?_
 refine op_y (y_move rfl) rfl ?_
 refine op_nil ?_
 refine ent_then ?_
 refine cd_block ?_
 refine cd_rounds 1 ?_
 refine cd_seq ?_
 refine cd_region [0] ?_
 first | refine op_y (y_lt rfl rfl (decide_eq_true (by omega))) rfl ?_ | refine op_y (y_lt rfl rfl (decide_eq_false (by omega))) rfl ?_ | refine op_y (y_lt rfl rfl rfl) rfl ?_
 refine op_nil ?_
 refine ent_then ?_
 refine cd_seq ?_
 refine cd_ift rfl ?_
 refine cd_skip ?_
 refine ent_then ?_
 refine cd_seq ?_
 refine cd_block ?_
 refine cd_seq ?_
 refine cd_region [0, 1, 2, 2] ?_
 first | refine op_y (y_ix0 (j := 0) New6.sl_26 rfl rfl (by omega) (by omega)) rfl ?_ | refine op_y (y_ix (j := 0) New6.sl_26 rfl rfl (by omega) (by omega)) rfl ?_ | refine op_y (y_ixa (j := 0) New6.sl_26 rfl rfl (by omega) (by omega)) rfl ?_
 apply op_lda New6.ag_153 rfl rfl
 ·exact rm
 ·(first | ((try simp only [zz, splice, Nat.reduceAdd, Nat.zero_mul, Nat.zero, rlc, pre0, ncs, twoZ]) <;> rfl) | rfl)
 ·rfl
 refine op_alloc New6.ze_153 rfl fun b5 => ?_
 apply op_sta New6.sz_153 rfl rfl rfl rfl
 ·exact rm
 ·simp
 ·(first | ((try simp only [zz, splice, Nat.reduceAdd, Nat.zero_mul, Nat.zero, rlc, pre0, ncs, twoZ]) <;> rfl) | rfl)
 refine op_nil ?_
 refine ent_then ?_
 refine cd_seq ?_
 refine cd_region [0, 0, 1, 2, 2, 0] ?_
 refine op_y (y_move rfl) rfl ?_
 first | refine op_y (y_fld New6.fo_153_2 rfl) rfl ?_ | refine op_y (y_flda New6.fo_153_2 rfl) rfl ?_
 apply op_ld New6.sc_41 rfl rfl
 ·exact rm
 ·rfl
 apply op_bslice New6.sl_281 New6.ze_41 rfl rfl rfl rfl rfl
 ·(first | ((try simp [fillL, splice, Value.cells, Nat.zero, rlc, pre0, ncs, twoZ]) <;> rfl) | rfl)
 intro b22
 apply op_append New6.sl_281 New6.ze_41 rfl rfl rfl (by decide) rfl
 ·exact rm
 ·(apply rds_all; exact rm)
 ·first | rfl | simp
 ·first | rfl | simp [ones]
 ·omega
 ·omega
 ·omega
 intro A23 c23
 refine op_y (y_assign rfl) rfl ?_
 refine op_nil ?_
 refine ent_then ?_
 refine cd_seq ?_
 refine cd_region [0, 1, 0] ?_
 first | refine op_y (y_fld New6.fo_153_3 rfl) rfl ?_ | refine op_y (y_flda New6.fo_153_3 rfl) rfl ?_
 apply op_ld New6.sc_41 rfl rfl
 ·exact rm
 ·rfl
 first | refine op_y (y_lt rfl rfl (decide_eq_true (by omega))) rfl ?_ | refine op_y (y_lt rfl rfl (decide_eq_false (by omega))) rfl ?_ | refine op_y (y_lt rfl rfl rfl) rfl ?_
 refine op_nil ?_
 refine ent_then ?_
 refine cd_iff rfl ?_
 refine cd_skip ?_
 refine ent_block ?_
 refine ent_then ?_
 refine cd_region [0, 0] ?_
 first | refine op_y (y_add rfl rfl (wi64 (by omega) (by omega))) rfl ?_ | refine op_y (y_add rfl rfl rfl) rfl ?_
 refine op_y (y_move rfl) rfl ?_
 refine op_nil ?_
 refine ent_round ?_
 refine cd_seq ?_
 refine cd_region [0] ?_
 first | refine op_y (y_lt rfl rfl (decide_eq_true (by omega))) rfl ?_ | refine op_y (y_lt rfl rfl (decide_eq_false (by omega))) rfl ?_ | refine op_y (y_lt rfl rfl rfl) rfl ?_
 refine op_nil ?_
 refine ent_then ?_
 refine cd_seq ?_
 refine cd_iff rfl ?_
 refine cd_exit ?_
 refine ent_thn_exit ?_
 refine ent_then_exit ?_
 refine ent_block_exit ?_
 refine ent_then ?_
 refine cd_seq ?_
 refine cd_region [0, 2] ?_
 apply op_own (A := A23)
 ·exact rm
 ·decide
 ·rfl
 rintro b1 r1 rfl h11 h12
 have hc : 2 ≤ c23 := by simp only [List.nil_append, List.cons_append, List.length_cons] at h12; omega
 simp only [List.nil_append, List.cons_append]
 refine op_y (y_move rfl) rfl ?_
 apply op_c New6.ca_158 rfl rfl (fun e he_ => sort_ct e b1 c23 r1)
 ·exact sx
 rintro _ _ ⟨rfl, rfl⟩ G_ hG_
 simp only [zn] at hG_; subst hG_
 refine op_nil ?_
 refine ent_then ?_
 refine cd_seq ?_
 refine cd_region [0] ?_
 refine op_y (y_assign rfl) rfl ?_
 refine op_nil ?_
 refine ent_then ?_
 refine cd_seq ?_
 refine cd_seq ?_
 refine cd_region [0, 2, 0, 0] ?_
 refine op_y (y_move rfl) rfl ?_
 apply op_c New6.ca_159 rfl rfl (fun e he_ => compact_ct e b1 c23 r1 hc)
 ·exact sx
 rintro _ _ ⟨rfl, rfl⟩ G_ hG_
 simp only [zn] at hG_; subst hG_
 refine op_to (L' := [ownS 321 2 none 0 0 [], pt b1 41 (twoZ r1), pt bc 153 rlc]) (fun w h => ownS_nil ?_) ?_
 ·apply Sat.only (h := h)
  exact sx
 refine op_y (y_len New6.un_281 rfl) rfl ?_
 refine op_y (y_move rfl) rfl ?_
 refine op_nil ?_
 refine ent_then ?_
 refine cd_block ?_
 refine cd_rounds 1 ?_
 refine cd_seq ?_
 refine cd_region [0] ?_
 first | refine op_y (y_lt rfl rfl (decide_eq_true (by omega))) rfl ?_ | refine op_y (y_lt rfl rfl (decide_eq_false (by omega))) rfl ?_ | refine op_y (y_lt rfl rfl rfl) rfl ?_
 refine op_nil ?_
 refine ent_then ?_
 refine cd_seq ?_
 refine cd_ift rfl ?_
 refine cd_skip ?_
 refine ent_then ?_
 refine cd_seq ?_
 refine cd_block ?_
 refine cd_seq ?_
 refine cd_region [0, 1, 0] ?_
 first | refine op_y (y_ix0 (j := 0) New6.sl_281 rfl rfl (by omega) (by omega)) rfl ?_ | refine op_y (y_ix (j := 0) New6.sl_281 rfl rfl (by omega) (by omega)) rfl ?_ | refine op_y (y_ixa (j := 0) New6.sl_281 rfl rfl (by omega) (by omega)) rfl ?_
 apply op_ld New6.sc_41 rfl rfl
 ·exact rm
 ·rfl
 refine op_y (y_assign rfl) rfl ?_
 refine op_nil ?_
 refine ent_then ?_
 refine cd_seq ?_
 refine cd_region [0] ?_
 refine op_y (y_assign rfl) rfl ?_
 refine op_nil ?_
 refine ent_then ?_
 refine cd_seq ?_
 refine cd_seq ?_
 refine cd_region [0, 0, 0] ?_
 refine op_y (y_move rfl) rfl ?_
 refine op_y (y_len New6.un_26 rfl) rfl ?_
 refine op_y (y_move rfl) rfl ?_
 refine op_nil ?_
 refine ent_then ?_
 refine cd_block ?_
 refine cd_rounds 1 ?_
 refine cd_seq ?_
 refine cd_region [0] ?_
 first | refine op_y (y_lt rfl rfl (decide_eq_true (by omega))) rfl ?_ | refine op_y (y_lt rfl rfl (decide_eq_false (by omega))) rfl ?_ | refine op_y (y_lt rfl rfl rfl) rfl ?_
 refine op_nil ?_
 refine ent_then ?_
 refine cd_seq ?_
 refine cd_ift rfl ?_
 refine cd_skip ?_
 refine ent_then ?_
 refine cd_seq ?_
 refine cd_block ?_
 refine cd_seq ?_
 refine cd_region [0, 0, 1, 2, 0, 2] ?_
 refine op_y (y_move rfl) rfl ?_
 first | refine op_y (y_ix0 (j := 0) New6.sl_26 rfl rfl (by omega) (by omega)) rfl ?_ | refine op_y (y_ix (j := 0) New6.sl_26 rfl rfl (by omega) (by omega)) rfl ?_ | refine op_y (y_ixa (j := 0) New6.sl_26 rfl rfl (by omega) (by omega)) rfl ?_
 apply op_lda New6.ag_153 rfl rfl
 ·exact rm
 ·(first | ((try simp only [zz, splice, Nat.reduceAdd, Nat.zero_mul, Nat.zero, rlc, pre0, ncs, twoZ]) <;> rfl) | rfl)
 ·rfl
 refine op_alloc New6.ze_153 rfl fun b11 => ?_
 refine op_y (y_assign rfl) rfl ?_
 apply op_sta New6.sz_153 rfl rfl rfl rfl
 ·exact rm
 ·simp
 ·(first | ((try simp only [zz, splice, Nat.reduceAdd, Nat.zero_mul, Nat.zero, rlc, pre0, ncs, twoZ]) <;> rfl) | rfl)
 refine op_nil ?_
 refine ent_then ?_
 refine cd_seq ?_
 refine cd_region [0, 1, 0, 0, 0, 0, 0, 1, 0, 0] ?_
 first | refine op_y (y_fld New6.fo_153_2 rfl) rfl ?_ | refine op_y (y_flda New6.fo_153_2 rfl) rfl ?_
 apply op_ld New6.sc_41 rfl rfl
 ·exact rm
 ·rfl
 refine op_y (y_move rfl) rfl ?_
 first | refine op_y (y_le rfl rfl (decide_eq_true (by omega))) rfl ?_ | refine op_y (y_le rfl rfl (decide_eq_false (by omega))) rfl ?_ | refine op_y (y_le rfl rfl rfl) rfl ?_
 refine op_y (y_move rfl) rfl ?_
 first
  | refine op_s1 rfl rfl ⟨rfl, rfl⟩ ?_
  | refine op_s2 rfl rfl ⟨rfl, rfl⟩ ?_
  | (refine op_g rfl rfl ?_
     refine op_y (y_move rfl) rfl ?_)
 first
  | refine op_s1 rfl rfl ⟨rfl, rfl⟩ ?_
  | refine op_s2 rfl rfl ⟨rfl, rfl⟩ ?_
  | (refine op_g rfl rfl ?_
     first | refine op_y (y_fld New6.fo_153_3 rfl) rfl ?_ | refine op_y (y_flda New6.fo_153_3 rfl) rfl ?_)
 first
  | refine op_s1 rfl rfl ⟨rfl, rfl⟩ ?_
  | refine op_s2 rfl rfl ⟨rfl, rfl⟩ ?_
  | (refine op_g rfl rfl ?_
     apply op_ld New6.sc_41 rfl rfl
     ·exact rm
     ·rfl)
 first
  | refine op_s1 rfl rfl ⟨rfl, rfl⟩ ?_
  | refine op_s2 rfl rfl ⟨rfl, rfl⟩ ?_
  | (refine op_g rfl rfl ?_
     first | refine op_y (y_le rfl rfl (decide_eq_true (by omega))) rfl ?_ | refine op_y (y_le rfl rfl (decide_eq_false (by omega))) rfl ?_ | refine op_y (y_le rfl rfl rfl) rfl ?_)
 first | refine op_y (y_pickt rfl rfl) rfl ?_ | refine op_y (y_pickf rfl rfl) rfl ?_ | refine op_y (y_pick rfl rfl rfl) rfl ?_
 refine op_nil ?_
 refine ent_then ?_
 refine cd_ift rfl ?_
 refine cd_region [0, 0, 0, 0, 0] ?_
 refine op_y (y_move rfl) rfl ?_
 refine op_y (y_move rfl) rfl ?_
 refine op_y (y_shl (r := 1) rfl rfl (by decide) (by decide)) rfl ?_
 refine op_y (y_or (r := 1) rfl rfl (by decide)) rfl ?_
 refine op_y (y_assign rfl) rfl ?_
 refine op_nil ?_
 refine ent_block ?_
 refine ent_then ?_
 refine cd_region [0, 0] ?_
 first | refine op_y (y_add rfl rfl (wi64 (by omega) (by omega))) rfl ?_ | refine op_y (y_add rfl rfl rfl) rfl ?_
 refine op_y (y_move rfl) rfl ?_
 refine op_nil ?_
 refine ent_round ?_
 refine cd_seq ?_
 refine cd_region [0] ?_
 first | refine op_y (y_lt rfl rfl (decide_eq_true (by omega))) rfl ?_ | refine op_y (y_lt rfl rfl (decide_eq_false (by omega))) rfl ?_ | refine op_y (y_lt rfl rfl rfl) rfl ?_
 refine op_nil ?_
 refine ent_then ?_
 refine cd_seq ?_
 refine cd_iff rfl ?_
 refine cd_exit ?_
 refine ent_thn_exit ?_
 refine ent_then_exit ?_
 refine ent_block_exit ?_
 refine ent_then ?_
 refine cd_region [0, 0, 0, 0, 2, 2, 0] ?_
 refine op_y (y_move rfl) rfl ?_
 refine op_y (y_move rfl) rfl ?_
 refine op_y (y_move rfl) rfl ?_
 apply op_build New6.pl_321 New6.ze_321 rfl rfl
 ·(first | ((try simp [fillL, splice, Value.cells, Nat.zero, rlc, pre0, ncs, twoZ]) <;> rfl) | rfl)
 apply op_bslice New6.sl_222 New6.ze_321 rfl rfl rfl rfl rfl
 ·(first | ((try simp [fillL, splice, Value.cells, Nat.zero, rlc, pre0, ncs, twoZ]) <;> rfl) | rfl)
 intro b69
 apply op_append New6.sl_222 New6.ze_321 rfl rfl rfl (by decide) rfl
 ·exact rm
 ·(apply rds_all; exact rm)
 ·first | rfl | simp
 ·first | rfl | simp [ones]
 ·omega
 ·omega
 ·omega
 intro A70 c70
 refine op_y (y_assign rfl) rfl ?_
 refine op_nil ?_
 refine ent_block ?_
 refine ent_then ?_
 refine cd_region [0, 0] ?_
 first | refine op_y (y_add rfl rfl (wi64 (by omega) (by omega))) rfl ?_ | refine op_y (y_add rfl rfl rfl) rfl ?_
 refine op_y (y_move rfl) rfl ?_
 refine op_nil ?_
 refine ent_round ?_
 refine cd_seq ?_
 refine cd_region [0] ?_
 first | refine op_y (y_lt rfl rfl (decide_eq_true (by omega))) rfl ?_ | refine op_y (y_lt rfl rfl (decide_eq_false (by omega))) rfl ?_ | refine op_y (y_lt rfl rfl rfl) rfl ?_
 refine op_nil ?_
 refine ent_then ?_
 refine cd_seq ?_
 refine cd_iff rfl ?_
 apply cd_own (A := A70)
 ·exact rm
 ·decide
 ·rfl
 rintro b2 r2 rfl h21 h22
 simp only [List.nil_append, List.cons_append]
 refine cd_exit ?_
 refine ent_thn_exit ?_
 refine ent_then_exit ?_
 refine ent_block_exit ?_
 refine ent_then ?_
 refine cd_seq ?_
 refine cd_region [0, 0] ?_
 refine op_y (y_move rfl) rfl ?_
 refine op_y (y_assign rfl) rfl ?_
 refine op_nil ?_
 refine ent_then ?_
 refine cd_ret ?_
 refine ent_ret1 rfl rfl ⟨_, ⟨b2, c70, r2, rfl, rfl⟩, fun w h => ?_⟩
 apply Sat.only (h := h)
 exact sx
theorem ruNew_ct (c : Cx) (bc k : Nat) : Ct Tryz.prog 48 #[.slice (some ⟨bc, 0, none⟩) 1 k] c [pt bc 153 rlc] fun v L => ∃ t, v = .tuple #[.pointer (some ⟨t, 0, none⟩), .int .i64 0] ∧ L = [rulesI t, pt bc 153 rlc] := by
 refine ct_fn (args := [.slice (some ⟨bc, 0, none⟩) 1 k]) [(0, .slice (some ⟨bc, 0, none⟩) 1 k)] Tryz.func48 rfl Tryz.ntmps48 rfl ⟨rfl, trivial⟩ ?_
 refine cd_seq ?_
 refine cd_region [0, 0] ?_
 refine op_y (y_assign rfl) rfl ?_
 refine op_y (y_assign rfl) rfl ?_
 refine op_nil ?_
 refine ent_then ?_
 refine cd_seq ?_
 refine cd_seq ?_
 refine cd_region [0, 2, 0] ?_
 refine op_y (y_move rfl) rfl ?_
 apply op_c New6.ca_53 rfl rfl (fun e he_ => rCheck_ct e bc k)
 ·exact sx
 rintro _ _ ⟨rfl, rfl⟩ G_ hG_
 simp only [zn] at hG_; subst hG_
 refine op_y (y_assign rfl) rfl ?_
 refine op_nil ?_
 refine ent_then ?_
 refine cd_seq ?_
 refine cd_region [0, 0] ?_
 refine op_y (y_move rfl) rfl ?_
 first | refine op_y (y_ne rfl rfl (neT (by omega))) rfl ?_ | refine op_y (y_ne rfl rfl (neF (by omega))) rfl ?_ | refine op_y (y_ne rfl rfl rfl) rfl ?_
 refine op_nil ?_
 refine ent_then ?_
 refine cd_iff rfl ?_
 refine cd_skip ?_
 refine ent_then ?_
 refine cd_seq ?_
 refine cd_region [0, 2, 0, 2, 0, 2, 0, 2, 0] ?_
 refine op_y (y_move rfl) rfl ?_
 apply op_c New6.ca_93 rfl rfl (fun e he_ => pfs_ct e bc k)
 ·exact sx
 rintro _ _ ⟨ts, rfl, rfl⟩ G_ hG_
 simp only [zn] at hG_; subst hG_
 refine op_y (y_move rfl) rfl ?_
 apply op_c New6.ca_93 rfl rfl (fun e he_ => pfd_ct e bc k)
 ·exact sx
 rintro _ _ ⟨td, rfl, rfl⟩ G_ hG_
 simp only [zn] at hG_; subst hG_
 refine op_y (y_move rfl) rfl ?_
 apply op_c New6.ca_96 rfl rfl (fun e he_ => runs_ct e bc k)
 ·exact sx
 rintro _ _ ⟨b1, m, r1, rfl, rfl⟩ G_ hG_
 simp only [zn] at hG_; subst hG_
 apply op_build New6.pl_226 New6.ze_226 rfl rfl
 ·(first | ((try simp [fillL, splice, Value.cells, Nat.zero, rlc, pre0, ncs, twoZ]) <;> rfl) | rfl)
 refine op_boxa rfl rfl fun b20 => ?_
 refine op_y (y_assign rfl) rfl ?_
 refine op_nil ?_
 refine ent_then ?_
 refine cd_seq ?_
 refine cd_seq ?_
 refine cd_region [0, 0, 0] ?_
 refine op_to (L' := [ownS 42 1 none 0 0 [], pt b20 226 [.pointer (some ⟨ts, 0, none⟩), .pointer (some ⟨td, 0, none⟩), .slice (some ⟨b1, 0, none⟩) 1 m, .slice none 0 0], trieI ts 1, trieI td 1, pt b1 321 (.int .u16 0 :: .int .u64 1 :: r1), pt bc 153 rlc]) (fun w h => ownS_nil ?_) ?_
 ·apply Sat.only (h := h)
  exact sx
 refine op_y (y_move rfl) rfl ?_
 refine op_y (y_len New6.un_26 rfl) rfl ?_
 refine op_y (y_move rfl) rfl ?_
 refine op_nil ?_
 refine ent_then ?_
 refine cd_block ?_
 refine cd_rounds 1 ?_
 refine cd_seq ?_
 refine cd_region [0] ?_
 first | refine op_y (y_lt rfl rfl (decide_eq_true (by omega))) rfl ?_ | refine op_y (y_lt rfl rfl (decide_eq_false (by omega))) rfl ?_ | refine op_y (y_lt rfl rfl rfl) rfl ?_
 refine op_nil ?_
 refine ent_then ?_
 refine cd_seq ?_
 refine cd_ift rfl ?_
 refine cd_skip ?_
 refine ent_then ?_
 refine cd_seq ?_
 refine cd_block ?_
 refine cd_seq ?_
 refine cd_region [0, 1, 2, 2] ?_
 first | refine op_y (y_ix0 (j := 0) New6.sl_26 rfl rfl (by omega) (by omega)) rfl ?_ | refine op_y (y_ix (j := 0) New6.sl_26 rfl rfl (by omega) (by omega)) rfl ?_ | refine op_y (y_ixa (j := 0) New6.sl_26 rfl rfl (by omega) (by omega)) rfl ?_
 apply op_lda New6.ag_153 rfl rfl
 ·exact rm
 ·(first | ((try simp only [zz, splice, Nat.reduceAdd, Nat.zero_mul, Nat.zero, rlc, pre0, ncs, twoZ]) <;> rfl) | rfl)
 ·rfl
 refine op_alloc New6.ze_153 rfl fun b7 => ?_
 apply op_sta New6.sz_153 rfl rfl rfl rfl
 ·exact rm
 ·simp
 ·(first | ((try simp only [zz, splice, Nat.reduceAdd, Nat.zero_mul, Nat.zero, rlc, pre0, ncs, twoZ]) <;> rfl) | rfl)
 refine op_nil ?_
 refine ent_then ?_
 refine cd_drawL [0, 1, 2, 3, 4, 5, 6, 7, 8, 9, 10, 11] [0, 0, 0, 0, 3, 0, 1, 4, 2, 0, 0, 2] mixed_ (by kernel_rfl) ?_
 refine op_y (y_move rfl) rfl ?_
 refine op_y (y_move rfl) rfl ?_
 first | refine op_y (y_nil rfl) rfl ?_ | refine op_y (y_nili rfl) rfl ?_ | refine op_y (y_nilf rfl) rfl ?_
 first | refine op_y (y_fld New6.fo_226_3 rfl) rfl ?_ | refine op_y (y_flda New6.fo_226_3 rfl) rfl ?_
 apply op_lds New6.sc_224 rfl rfl
 ·exact rm
 ·rfl
 ·(first | exact fun w h => h | exact fun w h => h.drop | (intro w h; apply Sat.only (h := h); exact sx))
 first | refine op_y (y_fld New6.fo_153_4 rfl) rfl ?_ | refine op_y (y_flda New6.fo_153_4 rfl) rfl ?_
 apply op_ld New6.sc_42 rfl rfl
 ·exact rm
 ·rfl
 apply op_bslice4 New6.sl_224 New6.ze_42 rfl rfl rfl rfl rfl
 ·(first | ((try simp [fillL, splice, Value.cells, Nat.zero, rlc, pre0, ncs, twoZ]) <;> rfl) | rfl)
 ·(first | exact fun w h => h | exact fun w h => h.drop | (intro w h; apply Sat.only (h := h); exact sx))
 intro b34
 apply op_append New6.sl_224 New6.ze_42 rfl rfl rfl (by decide) rfl
 ·exact rm
 ·(apply rds_all; exact rm)
 ·first | rfl | simp
 ·first | rfl | simp [ones]
 ·omega
 ·omega
 ·omega
 intro A35 c35
 first | refine op_y (y_nil rfl) rfl ?_ | refine op_y (y_nili rfl) rfl ?_ | refine op_y (y_nilf rfl) rfl ?_
 first | refine op_y (y_fld New6.fo_226_3 rfl) rfl ?_ | refine op_y (y_flda New6.fo_226_3 rfl) rfl ?_
 apply op_st1 New6.sz_224 rfl rfl rfl
 ·exact rm
 ·rfl
 ·(first | ((try simp only [zz, splice, Nat.reduceAdd, Nat.zero_mul, Nat.zero, rlc, pre0, ncs, twoZ]) <;> rfl) | rfl)
 refine op_nil ?_
 refine ent_block ?_
 refine ent_then ?_
 refine cd_region [0, 0] ?_
 first | refine op_y (y_add rfl rfl (wi64 (by omega) (by omega))) rfl ?_ | refine op_y (y_add rfl rfl rfl) rfl ?_
 refine op_y (y_move rfl) rfl ?_
 refine op_nil ?_
 refine ent_round ?_
 refine cd_seq ?_
 refine cd_region [0] ?_
 first | refine op_y (y_lt rfl rfl (decide_eq_true (by omega))) rfl ?_ | refine op_y (y_lt rfl rfl (decide_eq_false (by omega))) rfl ?_ | refine op_y (y_lt rfl rfl rfl) rfl ?_
 refine op_nil ?_
 refine ent_then ?_
 refine cd_seq ?_
 refine cd_iff rfl ?_
 apply cd_own (A := A35)
 ·exact rm
 ·decide
 ·rfl
 rintro b2 r2 rfl h21 h22
 simp only [List.nil_append, List.cons_append]
 refine cd_exit ?_
 refine ent_thn_exit ?_
 refine ent_then_exit ?_
 refine ent_block_exit ?_
 refine ent_then ?_
 refine cd_seq ?_
 refine cd_region [0, 0, 0] ?_
 refine op_y (y_move rfl) rfl ?_
 refine op_y (y_assign rfl) rfl ?_
 refine op_y (y_assign rfl) rfl ?_
 refine op_nil ?_
 refine ent_then ?_
 refine cd_ret ?_
 refine ent_ret2 rfl rfl rfl ⟨_, ⟨b20, rfl, rfl⟩, fun w h => rulesI_shut ⟨ts, td, b1, m, r1, b2, c35, r2⟩ ?_⟩
 apply Sat.only (h := h)
 exact sx
end Go.Proofs.YtfkadaodnaaceaaGreatDoor
