import Derived.Test.YtneokajhmonpaaaDoorCaught2
import Derived.Test.YtneokajhmonpaaaDoorChecked
/- A part of the proofs of the statements about the chartroom program (YtneokajhmonpaaaDoor): the walk and the plain law. -/
set_option linter.unusedSimpArgs false
set_option linter.unusedVariables false
namespace Go.Proofs.YtneokajhmonpaaaDoor
open Go Go.RowKit Go.W
set_option maxRecDepth 10000
open Fx

theorem word_c (bs : List UInt8) (a : Option Addr) (n c : Nat) (hn : 4 ≤ n) (hc : n ≤ c) (w : World) (H : Froz) (hz : Fz H w) (hr : RdS H a n 1 (bc bs)) :
    CallsR Tryd.prog 116 [.slice a n c] w fun v w' => v = .int .u32 (word4 bs : Int) ∧ St ⟨w, H, []⟩ H [] w' := by
  refine calls_start Tryd.func116 rfl Tryd.ntmps116 rfl (fun a hF => ?_)
  have hS := St.start w H hz
  have hl := hr.bytes
  refine c_seq (fun K1 hK1 => ?_)
  refine c_reg ?_
  refine n_q hF hS (q_assign rfl) rfl (fun a hF => ?_)
  refine hK1 _ _ ?_
  refine c_seq (fun K2 hK2 => ?_)
  refine c_seq (fun K3 hK3 => ?_)
  refine c_reg ?_
  refine n_q hF hS (q_move rfl) rfl (fun a hF => ?_)
  refine n_q hF hS (q_slice (n := n) (c := c) (m := c) (h := 4) (l := 0) Tryd.underlying46 ty5 rfl rfl ⟨_, rfl, by omega⟩ rfl) rfl (fun a hF => ?_)
  refine n_q hF hS (q_len Tryd.underlying46 rfl rfl) rfl (fun a hF => ?_)
  refine n_q hF hS (q_move rfl) rfl (fun a hF => ?_)
  refine hK3 _ _ ?_
  refine c_block ?_
  refine c_loopS hF [2, 4, 8, 9, 10, 11, 12, 13, 14, 15, 16, 17]
    (fun k : Nat => [(2, .int .u32 (wordN (bn bs) k : Int)), (8, .int .i64 (k : Int))])
    (fun _ => [])
    (fun k _ => k ≤ 4)
    (fun k => 4 - k) (0) ⟨rfl, rfl, trivial⟩ (hS) (Nat.zero_le _) ?_
  clear hF hS
  intro k a w H hle hF hS hJ
  replace hr := hr.mono hle
  have hl0 := Le.refl H
  dsimp only at hF hJ
  refine c_seq (fun K4 hK4 => ?_)
  refine c_reg ?_
  refine n_q hF hS (q_lss rfl rfl) rfl (fun a hF => ?_)
  refine hK4 _ _ ?_
  refine c_seq (fun K5 hK5 => ?_)
  refine spd hF (s := 9) rfl (fun hc9 hF => ?_) (fun hc9 hF => ?_)
  refine c_true hF rfl ?_
  refine wp_skip ?_
  refine hK5 _ _ ?_
  refine c_seq (fun K6 hK6 => ?_)
  refine c_block ?_
  refine c_seq (fun K7 hK7 => ?_)
  refine c_reg ?_
  have hlt : k < 4 := by omega
  have hr2 := hr.cutB (c := c) (l := 0) (h := 4) (by omega) (by omega) (by omega)
  refine n_q hF hS (q_indexAddrS Tryd.underlying46 ty5 rfl rfl (by omega) (hr2.some (by omega))) rfl (fun a hF => ?_)
  refine n_q hF hS (q_loadE (v := .int .u8 (gt (bn bs) k : Int)) ty5 rfl hr2 (by simp [bc_length]; omega) rfl (by simp only [ldv, cond_false, Int.toNat_natCast, Nat.mul_one]; rw [List.drop_zero, bc_getn (by simp; omega)]; simp [gt, bn, List.getD_eq_getElem?_getD, List.getElem?_take, hlt])) rfl (fun a hF => ?_)
  refine n_q hF hS (q_assign rfl) rfl (fun a hF => ?_)
  refine hK7 _ _ ?_
  refine c_reg ?_
  refine n_q hF hS (q_move rfl) rfl (fun a hF => ?_)
  refine n_q hF hS (q_shl (m := 4294967296) (s := 8) rfl rfl rfl rfl (by decide)) rfl (fun a hF => ?_)
  refine n_q hF hS (q_move rfl) rfl (fun a hF => ?_)
  refine n_q hF hS (q_cv32 Tryd.underlying5 Tryd.underlying162 rfl (by have := gt_bn_lt bs k; omega)) rfl (fun a hF => ?_)
  refine n_q hF hS (q_or (m := 4294967296) rfl rfl rfl rfl (Nat.mod_lt _ (by decide)) (by have := gt_bn_lt bs k; omega)) rfl (fun a hF => ?_)
  refine n_q hF hS (q_assign rfl) rfl (fun a hF => ?_)
  refine hK6 _ _ ?_
  refine c_reg ?_
  refine n_q hF hS (q_addI rfl rfl (by omega)) rfl (fun a hF => ?_)
  refine n_q hF hS (q_move rfl) rfl (fun a hF => ?_)
  exact ⟨k + 1, _, (by show 4 - (k + 1) < 4 - k; omega), hl0, hF.back ⟨by show some (Value.int _ _) = some (Value.int _ _); rw [wordN_succ (by rw [bn_length]; omega)], rfl, trivial⟩ rfl (by repeat first | exact Ext.refl _ _ | refine Ext.rem' rfl ?_ | refine Ext.push rfl ?_), hS.lose (.refl _), (by omega)⟩
  refine c_false hF rfl ?_
  refine c_exit ?_
  refine hK2 _ _ ?_
  refine c_seq (fun K8 hK8 => ?_)
  refine c_reg ?_
  refine n_q hF hS (q_move rfl) rfl (fun a hF => ?_)
  refine n_q hF hS (q_assign rfl) rfl (fun a hF => ?_)
  refine hK8 _ _ ?_
  refine c_ret ?_
  repeat (first | refine ret_then ?_ | refine ret_blk ?_)
  refine c_ret' (P := Tryd.prog) (fn := Tryd.f116) rfl hF hS (.tmp rfl .nil) ⟨_, rfl, ?_⟩
  exact ⟨by show Value.int _ _ = _; rw [show k = 4 by omega]; rfl, hS.same⟩

theorem rotated_c (x i j k : Nat) (hx : x < 4294967296) (hi : 1 ≤ i ∧ i ≤ 31) (hj : 1 ≤ j ∧ j ≤ 31) (hk : 1 ≤ k ∧ k ≤ 31) (w : World) (H : Froz) (hz : Fz H w) : CallsR Tryd.prog 118 [.int .u32 (x : Int), .int .i64 (i : Int), .int .i64 (j : Int), .int .i64 (k : Int)] w fun v w' => v = .int .u32 (rot3 x i j k : Int) ∧ St ⟨w, H, []⟩ H [] w' := by
  refine calls_start Tryd.func118 rfl Tryd.ntmps118 rfl (fun a hF => ?_)
  have hS := St.start w H hz
  have hS0 := hS
  refine c_seq (fun K1 hK1 => ?_)
  refine c_reg ?_
  refine n_q hF hS (q_assign rfl) rfl (fun a hF => ?_)
  refine hK1 _ _ ?_
  refine c_seq (fun K2 hK2 => ?_)
  refine c_reg ?_
  refine n_q hF hS (q_move rfl) rfl (fun a hF => ?_)
  refine n_q hF hS (q_move rfl) rfl (fun a hF => ?_)
  refine n_q hF hS (q_neg rfl (by omega)) rfl (fun a hF => ?_)
  refine n_l rfl (fun K3 hK3 => l_call en117 hF rfl rfl (RotateLeft32_c x i _ hx hi rfl _ _ hS.fz) (fun v3 w hR a hF => ?_))
  obtain ⟨rfl, hc⟩ := hR
  replace hS := hS.call0 hc
  refine hK3 _ _ ?_
  refine n_q hF hS (q_move rfl) rfl (fun a hF => ?_)
  refine n_q hF hS (q_move rfl) rfl (fun a hF => ?_)
  refine n_q hF hS (q_neg rfl (by omega)) rfl (fun a hF => ?_)
  refine n_l rfl (fun K4 hK4 => l_call en117 hF rfl rfl (RotateLeft32_c x j _ hx hj rfl _ _ hS.fz) (fun v4 w hR a hF => ?_))
  obtain ⟨rfl, hc⟩ := hR
  replace hS := hS.call0 hc
  refine hK4 _ _ ?_
  refine n_q hF hS (q_xor (m := 4294967296) rfl rfl rfl rfl (rotr_lt hx) (rotr_lt hx)) rfl (fun a hF => ?_)
  refine n_q hF hS (q_move rfl) rfl (fun a hF => ?_)
  refine n_q hF hS (q_move rfl) rfl (fun a hF => ?_)
  refine n_q hF hS (q_neg rfl (by omega)) rfl (fun a hF => ?_)
  refine n_l rfl (fun K5 hK5 => l_call en117 hF rfl rfl (RotateLeft32_c x k _ hx hk rfl _ _ hS.fz) (fun v5 w hR a hF => ?_))
  obtain ⟨rfl, hc⟩ := hR
  replace hS := hS.call0 hc
  refine hK5 _ _ ?_
  refine n_q hF hS (q_xor (m := 4294967296) rfl rfl rfl rfl (Nat.xor_lt_two_pow (n := 32) (rotr_lt hx) (rotr_lt hx)) (rotr_lt hx)) rfl (fun a hF => ?_)
  refine n_q hF hS (q_assign rfl) rfl (fun a hF => ?_)
  refine hK2 _ _ ?_
  refine c_ret ?_
  repeat (first | refine ret_then ?_ | refine ret_blk ?_)
  refine c_ret' (P := Tryd.prog) (fn := Tryd.f118) rfl hF hS (.tmp rfl .nil) ⟨_, rfl, ?_⟩
  exact ⟨rfl, hS.same⟩

theorem put_c (b o len c x : Nat) (cs : List Value) (T : TypeId) (hle : len ≤ 8) (ho : o + len ≤ cs.length) (hx : x < 18446744073709551616) (w : World) (H : Froz) (hh : Hand w H [⟨b, cs, T⟩]) :
    CallsR Tryd.prog 100 [.slice (some ⟨b, o, none⟩) len c, .int .u64 (x : Int)] w fun v w' => v = .tuple #[] ∧ St ⟨w, H, [b]⟩ H [⟨b, spl cs o (bc (beB len x)), T⟩] w' := by
  refine calls_start Tryd.func100 rfl Tryd.ntmps100 rfl (fun a hF => ?_)
  have hS : St ⟨w, H, [b]⟩ H [⟨b, cs, T⟩] w := St.startG hh
  refine c_seq (fun K1 hK1 => ?_)
  refine c_reg ?_
  refine n_q hF hS (q_move rfl) rfl (fun a hF => ?_)
  refine n_q hF hS (q_len Tryd.underlying46 rfl rfl) rfl (fun a hF => ?_)
  refine n_q hF hS (q_move rfl) rfl (fun a hF => ?_)
  refine hK1 _ _ ?_
  refine c_block ?_
  refine c_loopL hF [4, 7, 8, 9, 10, 11, 12, 13, 14, 15, 16, 17, 18, 19, 20, 21, 22]
    (fun k : Nat => [(7, .int .i64 (k : Int))])
    (fun k => [⟨b, spl cs (o + (len - k)) (bc ((beB len x).drop (len - k))), T⟩])
    (fun k _ => k ≤ len)
    (fun k => len - k) (0) ⟨rfl, trivial⟩ ((by rw [Nat.sub_zero, List.drop_of_length_le (by rw [beB_length]; exact Nat.le_refl _)]; show St _ _ [⟨b, spl cs (o + len) [], T⟩] _; rw [spl_nil]; exact hS)) (Nat.zero_le _) ?_
  clear hF hS
  intro k a w H hle hF hS hJ
  have hl0 := Le.refl H
  try dsimp only at hF hJ hS
  refine c_seq (fun K2 hK2 => ?_)
  refine c_reg ?_
  refine n_q hF hS (q_lss rfl rfl) rfl (fun a hF => ?_)
  refine hK2 _ _ ?_
  refine c_seq (fun K3 hK3 => ?_)
  refine spd hF (s := 8) rfl (fun hc8 hF => ?_) (fun hc8 hF => ?_)
  refine c_true hF rfl ?_
  refine wp_skip ?_
  refine hK3 _ _ ?_
  refine c_seq (fun K4 hK4 => ?_)
  refine c_block ?_
  refine c_seq (fun K5 hK5 => ?_)
  refine c_reg ?_
  refine n_q hF hS (q_move rfl) rfl (fun a hF => ?_)
  refine n_q hF hS (q_assign rfl) rfl (fun a hF => ?_)
  refine hK5 _ _ ?_
  refine c_reg ?_
  have hlt : k < len := by omega
  refine n_q hF hS (q_move rfl) rfl (fun a hF => ?_)
  refine n_q hF hS (q_move rfl) rfl (fun a hF => ?_)
  refine n_q hF hS (q_len Tryd.underlying46 rfl rfl) rfl (fun a hF => ?_)
  refine n_q hF hS (q_subI rfl rfl (by omega)) rfl (fun a hF => ?_)
  refine n_q hF hS (q_move rfl) rfl (fun a hF => ?_)
  refine n_q hF hS (q_subI rfl rfl (by omega)) rfl (fun a hF => ?_)
  refine n_q hF hS (q_move rfl) rfl (fun a hF => ?_)
  refine n_q hF hS (q_move rfl) rfl (fun a hF => ?_)
  refine n_q hF hS (q_mulI rfl rfl (by omega)) rfl (fun a hF => ?_)
  refine n_q hF hS (q_shr (s := 8 * k) rfl rfl (show 8 * k ≤ 64 by omega)) rfl (fun a hF => ?_)
  refine n_q hF hS (q_cv8 Tryd.underlying160 Tryd.underlying5 rfl) rfl (fun a hF => ?_)
  refine n_q hF hS (q_indexAddrSO (j := o + (len - 1 - k)) Tryd.underlying46 ty5 rfl rfl (by omega) (by omega)) rfl (fun a hF => ?_)
  refine n_l rfl (fun K6 hK6 => l_store (vs := [_]) ty5 hF hS rfl rfl (i := 0) rfl rfl rfl (by rw [Nat.ble_eq, spl_length (by simp [bc_length, beB_length]; omega)]; omega) rfl (fun a w hF hS => hK6 _ _ ?_))
  refine hK4 _ _ ?_
  refine c_reg ?_
  refine n_q hF hS (q_addI rfl rfl (by omega)) rfl (fun a hF => ?_)
  refine n_q hF hS (q_move rfl) rfl (fun a hF => ?_)
  exact ⟨k + 1, _, (by show len - (k + 1) < len - k; omega), hl0, hF.back ⟨rfl, trivial⟩ rfl (by repeat first | exact Ext.refl _ _ | refine Ext.rem' rfl ?_ | refine Ext.push rfl ?_), (by
      have e1 : o + (len - k) = (o + (len - 1 - k)) + 1 := by omega
      have e2 : (beB len x).drop (len - (k + 1)) = UInt8.ofNat (x / 2 ^ (8 * k)) :: (beB len x).drop (len - k) := by
        rw [List.drop_eq_getElem_cons (by rw [beB_length]; omega), show len - (k + 1) + 1 = len - k by omega]
        simp only [beB, List.getElem_map, List.getElem_range, show len - 1 - (len - (k + 1)) = k by omega]
      have hS' := hS
      dsimp only [List.set] at hS'
      rw [e1, spl_cons (by simp [bc_length, beB_length]; omega)] at hS'
      rw [e2, show o + (len - (k + 1)) = o + (len - 1 - k) by omega]
      show St _ _ [⟨b, spl cs (o + (len - 1 - k)) (.int .u8 ((UInt8.ofNat (x / 2 ^ (8 * k))).toNat : Int) :: bc ((beB len x).drop (len - k))), T⟩] _
      rw [show (UInt8.ofNat (x / 2 ^ (8 * k))).toNat = x / 2 ^ (8 * k) % 256 from UInt8.toNat_ofNat]
      exact hS'), (by omega)⟩
  refine c_false hF rfl ?_
  refine c_exit ?_
  repeat (first | refine ex_then ?_ | refine ex_blk ?_)
  refine c_norm (P := Tryd.prog) (fn := Tryd.f100) rfl hF hS .nil ⟨_, rfl, ?_⟩
  have hk : k = len := by omega
  subst hk
  rw [Nat.sub_self, List.drop_zero] at hS
  exact ⟨rfl, hS.down⟩
end Go.Proofs.YtneokajhmonpaaaDoor

namespace Go.Proofs.YtneokajhmonpaaaDoor
open Go Go.RowKit Go.W
set_option maxRecDepth 10000
open Fx

set_option maxHeartbeats 1600000 in
theorem absorb_c (b : Nat) (s : V8) (bs : List UInt8) (a : Option Addr) (n c : Nat) (T : TypeId) (hs : s.Ok) (hn : n = 64) (hc : n ≤ c) (w : World) (H : Froz) (hh : Hand w H [⟨b, wc s.l, T⟩]) (hg : Gl 0 1 H) (hr : RdS H a n 1 (bc bs)) :
    CallsR Tryd.prog 99 [.pointer (some ⟨b, 0, none⟩), .slice a n c] w fun v w' => v = .tuple #[] ∧ St ⟨w, H, [b]⟩ H [⟨b, wc (absorbV s bs).l, T⟩] w' := by
  refine calls_start Tryd.func99 rfl Tryd.ntmps99 rfl (fun a hF => ?_)
  have hS : St ⟨w, H, [b]⟩ H [⟨b, wc s.l, T⟩] w := St.startG hh
  have hbl := hr.bytes
  refine c_seq (fun K1 hK1 => ?_)
  refine c_reg ?_
  refine n_l rfl (fun K2 hK2 => l_alloc hF hS zr188 rfl (fun a w b1 hF hS => hK2 _ _ ?_))
  refine hK1 _ _ ?_
  refine c_seq (fun K3 hK3 => ?_)
  refine c_seq (fun K4 hK4 => ?_)
  refine c_reg ?_
  refine n_q hF hS (q_move rfl) rfl (fun a hF => ?_)
  refine hK4 _ _ ?_
  refine c_block ?_
  refine c_loopL hF [5, 14, 15, 16, 17, 18, 19, 20, 21, 22, 23, 24]
    (fun k : Nat => [(14, .int .i64 (k : Int))])
    (fun k => [⟨b1, wc (sch1 bs k), 188⟩, ⟨b, wc s.l, T⟩])
    (fun k _ => k ≤ 16)
    (fun k => 16 - k) (0) ⟨rfl, trivial⟩ ((by show St _ _ [⟨_, wc (List.replicate 64 0), _⟩, _] _; rw [show wc (List.replicate 64 0) = List.replicate 64 (.int .u32 0) from by simp [wc]]; exact hS)) (Nat.zero_le _) ?_
  clear hF hS
  intro k a w H hle hF hS hJ
  replace hr := hr.mono hle
  replace hg := hg.mono hle
  have hl0 := Le.refl H
  try dsimp only at hF hJ hS
  refine c_seq (fun K5 hK5 => ?_)
  refine c_reg ?_
  refine n_q hF hS (q_lss rfl rfl) rfl (fun a hF => ?_)
  refine hK5 _ _ ?_
  refine c_seq (fun K6 hK6 => ?_)
  refine spd hF (s := 15) rfl (fun hc15 hF => ?_) (fun hc15 hF => ?_)
  refine c_true hF rfl ?_
  refine wp_skip ?_
  refine hK6 _ _ ?_
  refine c_seq (fun K7 hK7 => ?_)
  refine c_block ?_
  refine c_seq (fun K8 hK8 => ?_)
  refine c_reg ?_
  refine n_q hF hS (q_move rfl) rfl (fun a hF => ?_)
  refine n_q hF hS (q_assign rfl) rfl (fun a hF => ?_)
  refine hK8 _ _ ?_
  refine c_reg ?_
  have hlt : k < 16 := by omega
  have hr2 := hr.cutB (c := c) (l := 4 * k) (h := n) (by omega) (by omega) hc
  rw [List.take_of_length_le (by omega)] at hr2
  refine n_q hF hS (q_move rfl) rfl (fun a hF => ?_)
  refine n_q hF hS (q_move rfl) rfl (fun a hF => ?_)
  refine n_q hF hS (q_move rfl) rfl (fun a hF => ?_)
  refine n_q hF hS (q_mulI rfl rfl (by omega)) rfl (fun a hF => ?_)
  refine n_q hF hS (q_slice (n := n) (c := c) (m := c) (h := n) (l := 4 * k) Tryd.underlying46 ty5 rfl rfl ⟨rfl, rfl⟩ ⟨_, rfl, by omega⟩) rfl (fun a hF => ?_)
  refine n_l rfl (fun K9 hK9 => l_call en116 hF rfl rfl (word_c _ _ _ _ (by omega) (by omega) _ _ hS.fz hr2) (fun v9 w hR a hF => ?_))
  obtain ⟨rfl, hc⟩ := hR
  replace hS := hS.call0 hc
  refine hK9 _ _ ?_
  refine n_q hF hS (q_indexAddrAj (j := k) Tryd.underlying188 ty162 rfl rfl (by omega) (by omega)) rfl (fun a hF => ?_)
  refine n_l rfl (fun K10 hK10 => l_store (vs := [_]) ty162 hF hS rfl rfl (i := 0) rfl rfl rfl (by rw [Nat.ble_eq, wc_length, sch1_length]; omega) rfl (fun a w hF hS => hK10 _ _ ?_))
  refine hK7 _ _ ?_
  refine c_reg ?_
  refine n_q hF hS (q_addI rfl rfl (by omega)) rfl (fun a hF => ?_)
  refine n_q hF hS (q_move rfl) rfl (fun a hF => ?_)
  exact ⟨k + 1, _, (by show 16 - (k + 1) < 16 - k; omega), hl0, hF.back ⟨rfl, trivial⟩ rfl (by repeat first | exact Ext.refl _ _ | refine Ext.rem' rfl ?_ | refine Ext.push rfl ?_), (by dsimp only [List.set] at hS; rw [wc_spl2 (by rw [sch1_length]; omega)] at hS; exact hS), (by omega)⟩
  refine c_false hF rfl ?_
  refine c_exit ?_
  refine hK3 _ _ ?_
  refine c_seq (fun K11 hK11 => ?_)
  refine c_seq (fun K12 hK12 => ?_)
  refine c_reg ?_
  refine n_q hF hS (q_assign rfl) rfl (fun a hF => ?_)
  refine hK12 _ _ ?_
  refine c_block ?_
  refine c_loopL hF [6, 7, 8, 25, 26, 27, 28, 29, 30, 31, 32, 33, 34, 35, 36, 37, 38, 39, 40, 41, 42, 43, 44, 45, 46, 47, 48, 49, 50, 51, 52, 53, 54, 55, 56, 57, 58, 59, 60, 61, 62, 63, 64, 65]
    (fun k : Nat => [(6, .int .i64 ((16 + k : Nat) : Int))])
    (fun k => [⟨b1, wc (sch2 bs k), 188⟩, ⟨b, wc s.l, T⟩])
    (fun k _ => k ≤ 48)
    (fun k => 48 - k) (0) ⟨rfl, trivial⟩ ((by rw [show sch2 bs 0 = sch1 bs k by rw [show k = 16 by omega]; rfl]; exact hS)) (Nat.zero_le _) ?_
  clear hF hS
  intro k a w H hle hF hS hJ
  replace hr := hr.mono hle
  replace hg := hg.mono hle
  have hl1 := Le.refl H
  try dsimp only at hF hJ hS
  refine c_seq (fun K13 hK13 => ?_)
  refine c_seq (fun K14 hK14 => ?_)
  refine c_reg ?_
  refine n_q hF hS (q_move rfl) rfl (fun a hF => ?_)
  refine n_q hF hS (q_lss rfl rfl) rfl (fun a hF => ?_)
  refine hK14 _ _ ?_
  refine spd hF (s := 26) rfl (fun hc26 hF => ?_) (fun hc26 hF => ?_)
  refine c_true hF rfl ?_
  refine wp_skip ?_
  refine hK13 _ _ ?_
  refine c_seq (fun K15 hK15 => ?_)
  refine c_block ?_
  refine c_seq (fun K16 hK16 => ?_)
  have hlt : k < 48 := by omega
  have hw := sch2_lt bs k
  have hx := gt_lt hw (k + 1)
  have hy := gt_lt hw (k + 14)
  refine r_start (fun L => L) [] mo hS (fun w hS => ?_)
  refine r_q (i := 0) rfl rfl hF hS (q_move rfl) rfl (fun a hF => ?_)
  refine r_q (i := 1) rfl rfl hF hS (q_subI rfl rfl (by omega)) rfl (fun a hF => ?_)
  refine r_q (i := 2) rfl rfl hF hS (q_indexAddrAj (j := k + 1) Tryd.underlying188 ty162 rfl rfl (by omega) (by omega)) rfl (fun a hF => ?_)
  refine r_q (i := 3) rfl rfl hF hS (q_load ty162 rfl (i := 0) rfl (by rw [Nat.ble_eq, wc_length, sch2_length]; omega) rfl (show ldv false 1 (wc (sch2 bs k)) (k + 1) = some (.int .u32 (gt (sch2 bs k) (k + 1) : Int)) from wc_ld2 (by rw [sch2_length]; omega))) rfl (fun a hF => ?_)
  refine r_q (i := 4) rfl rfl hF hS (q_move rfl) rfl (fun a hF => ?_)
  refine r_q (i := 5) rfl rfl hF hS (q_subI rfl rfl (by omega)) rfl (fun a hF => ?_)
  refine r_q (i := 6) rfl rfl hF hS (q_indexAddrAj (j := k + 14) Tryd.underlying188 ty162 rfl rfl (by omega) (by omega)) rfl (fun a hF => ?_)
  refine r_q (i := 7) rfl rfl hF hS (q_load ty162 rfl (i := 0) rfl (by rw [Nat.ble_eq, wc_length, sch2_length]; omega) rfl (show ldv false 1 (wc (sch2 bs k)) (k + 14) = some (.int .u32 (gt (sch2 bs k) (k + 14) : Int)) from wc_ld2 (by rw [sch2_length]; omega))) rfl (fun a hF => ?_)
  refine r_q (i := 8) rfl rfl hF hS (q_assign rfl) rfl (fun a hF => ?_)
  refine r_q (i := 9) rfl rfl hF hS (q_assign rfl) rfl (fun a hF => ?_)
  refine r_done (by kernel_rfl) ?_
  refine hK16 _ _ ?_
  refine r_start (fun L => L) [29] mo hS (fun w hS => ?_)
  refine r_q (i := 0) rfl rfl hF hS (q_move rfl) rfl (fun a hF => ?_)
  refine r_q (i := 1) rfl rfl hF hS (q_move rfl) rfl (fun a hF => ?_)
  refine r_q (i := 2) rfl rfl hF hS (q_subI rfl rfl (by omega)) rfl (fun a hF => ?_)
  refine r_q (i := 3) rfl rfl hF hS (q_indexAddrAj (j := k) Tryd.underlying188 ty162 rfl rfl (by omega) (by omega)) rfl (fun a hF => ?_)
  refine r_q (i := 4) rfl rfl hF hS (q_load ty162 rfl (i := 0) rfl (by rw [Nat.ble_eq, wc_length, sch2_length]; omega) rfl (show ldv false 1 (wc (sch2 bs k)) (k) = some (.int .u32 (gt (sch2 bs k) (k) : Int)) from wc_ld2 (by rw [sch2_length]; omega))) rfl (fun a hF => ?_)
  refine r_q (i := 5) rfl rfl hF hS (q_move rfl) rfl (fun a hF => ?_)
  refine r_q (i := 7) rfl rfl hF hS (q_move rfl) rfl (fun a hF => ?_)
  refine r_q (i := 10) rfl rfl hF hS (q_move rfl) rfl (fun a hF => ?_)
  refine r_q (i := 11) rfl rfl hF hS (q_shrC (m := 8) rfl rfl (by decide) rfl) rfl (fun a hF => ?_)
  refine r_q (i := 14) rfl rfl hF hS (q_move rfl) rfl (fun a hF => ?_)
  refine r_q (i := 15) rfl rfl hF hS (q_subI rfl rfl (by omega)) rfl (fun a hF => ?_)
  refine r_q (i := 16) rfl rfl hF hS (q_indexAddrAj (j := k + 9) Tryd.underlying188 ty162 rfl rfl (by omega) (by omega)) rfl (fun a hF => ?_)
  refine r_q (i := 17) rfl rfl hF hS (q_load ty162 rfl (i := 0) rfl (by rw [Nat.ble_eq, wc_length, sch2_length]; omega) rfl (show ldv false 1 (wc (sch2 bs k)) (k + 9) = some (.int .u32 (gt (sch2 bs k) (k + 9) : Int)) from wc_ld2 (by rw [sch2_length]; omega))) rfl (fun a hF => ?_)
  refine r_q (i := 19) rfl rfl hF hS (q_move rfl) rfl (fun a hF => ?_)
  refine r_q (i := 21) rfl rfl hF hS (q_move rfl) rfl (fun a hF => ?_)
  refine r_q (i := 24) rfl rfl hF hS (q_move rfl) rfl (fun a hF => ?_)
  refine r_q (i := 25) rfl rfl hF hS (q_shrC (m := 1024) rfl rfl (by decide) rfl) rfl (fun a hF => ?_)
  refine r_one (i := 6) (by kernel_rfl) ?_
  have hsub := hS.sub
  refine r_li rfl rfl (fun K17 hK17 => l_call en117 hF rfl rfl (RotateLeft32_c (gt (sch2 bs k) (k + 1)) 7 _ hx (by decide) rfl _ _ hS.fz) (fun v17 w hR a hF => ?_))
  obtain ⟨rfl, hc⟩ := hR
  replace hS := hS.call0 hc
  refine hK17 _ _ _ hS (fun _ h => h) ?_
  refine r_one (i := 8) (by kernel_rfl) ?_
  have hsub := hS.sub
  refine r_li rfl rfl (fun K18 hK18 => l_call en117 hF rfl rfl (RotateLeft32_c (gt (sch2 bs k) (k + 1)) 18 _ hx (by decide) rfl _ _ hS.fz) (fun v18 w hR a hF => ?_))
  obtain ⟨rfl, hc⟩ := hR
  replace hS := hS.call0 hc
  refine hK18 _ _ _ hS (fun _ h => h) ?_
  refine r_q (i := 9) rfl rfl hF hS (q_xor (m := 4294967296) rfl rfl rfl rfl (rotr_lt hx) (rotr_lt hx)) rfl (fun a hF => ?_)
  refine r_q (i := 12) rfl rfl hF hS (q_xor (m := 4294967296) rfl rfl rfl rfl (Nat.xor_lt_two_pow (n := 32) (rotr_lt hx) (rotr_lt hx)) (Nat.lt_of_le_of_lt (Nat.div_le_self _ _) hx)) rfl (fun a hF => ?_)
  refine r_q (i := 13) rfl rfl hF hS (q_add32 rfl rfl) rfl (fun a hF => ?_)
  refine r_q (i := 18) rfl rfl hF hS (q_add32 rfl rfl) rfl (fun a hF => ?_)
  refine r_one (i := 20) (by kernel_rfl) ?_
  have hsub := hS.sub
  refine r_li rfl rfl (fun K19 hK19 => l_call en117 hF rfl rfl (RotateLeft32_c (gt (sch2 bs k) (k + 14)) 17 _ hy (by decide) rfl _ _ hS.fz) (fun v19 w hR a hF => ?_))
  obtain ⟨rfl, hc⟩ := hR
  replace hS := hS.call0 hc
  refine hK19 _ _ _ hS (fun _ h => h) ?_
  refine r_one (i := 22) (by kernel_rfl) ?_
  have hsub := hS.sub
  refine r_li rfl rfl (fun K20 hK20 => l_call en117 hF rfl rfl (RotateLeft32_c (gt (sch2 bs k) (k + 14)) 19 _ hy (by decide) rfl _ _ hS.fz) (fun v20 w hR a hF => ?_))
  obtain ⟨rfl, hc⟩ := hR
  replace hS := hS.call0 hc
  refine hK20 _ _ _ hS (fun _ h => h) ?_
  refine r_q (i := 23) rfl rfl hF hS (q_xor (m := 4294967296) rfl rfl rfl rfl (rotr_lt hy) (rotr_lt hy)) rfl (fun a hF => ?_)
  refine r_q (i := 26) rfl rfl hF hS (q_xor (m := 4294967296) rfl rfl rfl rfl (Nat.xor_lt_two_pow (n := 32) (rotr_lt hy) (rotr_lt hy)) (Nat.lt_of_le_of_lt (Nat.div_le_self _ _) hy)) rfl (fun a hF => ?_)
  refine r_q (i := 27) rfl rfl hF hS (q_add32 rfl rfl) rfl (fun a hF => ?_)
  refine r_q (i := 28) rfl rfl hF hS (q_indexAddrAj (j := k + 16) Tryd.underlying188 ty162 rfl rfl (by omega) (by omega)) rfl (fun a hF => ?_)
  refine r_one (i := 29) (by kernel_rfl) ?_
  refine r_lL rfl rfl rfl (fun K21 hK21 => l_store (vs := [_]) ty162 hF hS rfl rfl (i := 0) rfl rfl rfl (by rw [Nat.ble_eq, wc_length, sch2_length]; omega) rfl (fun a w hF hS => hK21 _ _ ?_))
  refine r_done (by kernel_rfl) ?_
  refine hK15 _ _ ?_
  refine c_reg ?_
  refine n_q hF hS (q_move rfl) rfl (fun a hF => ?_)
  refine n_q hF hS (q_addI rfl rfl (by omega)) rfl (fun a hF => ?_)
  refine n_q hF hS (q_assign rfl) rfl (fun a hF => ?_)
  exact ⟨k + 1, _, (by show 48 - (k + 1) < 48 - k; omega), hl1, hF.back ⟨rfl, trivial⟩ rfl (by repeat first | exact Ext.refl _ _ | refine Ext.rem' rfl ?_ | refine Ext.push rfl ?_), (by dsimp only [List.set] at hS; rw [wc_spl2 (by rw [sch2_length]; omega)] at hS; exact hS), (by omega)⟩
  refine c_false hF rfl ?_
  refine c_exit ?_
  refine hK11 _ _ ?_
  refine c_seq (fun K22 hK22 => ?_)
  refine c_reg ?_
  refine n_q hF hS (q_move rfl) rfl (fun a hF => ?_)
  refine n_q hF hS (q_nilCheck rfl) rfl (fun a hF => ?_)
  refine n_q hF hS (q_load0 ty164 rfl (i := 1) rfl rfl rfl) rfl (fun a hF => ?_)
  refine n_l rfl (fun K23 hK23 => l_alloc hF hS zr164 rfl (fun a w b2 hF hS => hK23 _ _ ?_))
  refine n_l rfl (fun K24 hK24 => l_store0A ty164 hF hS rfl rfl (i := 0) rfl rfl rfl rfl (fun a w hF hS => hK24 _ _ ?_))
  refine hK22 _ _ ?_
  refine c_seq (fun K25 hK25 => ?_)
  refine c_seq (fun K26 hK26 => ?_)
  refine c_reg ?_
  refine n_q hF hS (q_move rfl) rfl (fun a hF => ?_)
  refine hK26 _ _ ?_
  refine c_block ?_
  refine c_loopL hF [10, 11, 12, 69, 70, 71, 72, 73, 74, 75, 76, 77, 78, 79, 80, 81, 82, 83, 84, 85, 86, 87, 88, 89, 90, 91, 92, 93, 94, 95, 96, 97, 98, 99, 100, 101, 102, 103, 104, 105, 106, 107, 108, 109, 110, 111, 112, 113, 114, 115, 116, 117, 118, 119, 120, 121, 122, 123, 124, 125, 126, 127, 128]
    (fun t : Nat => [(69, .int .i64 (t : Int))])
    (fun t => [⟨b2, wc (rnds (sch2 bs 48) s t).l, 164⟩, ⟨b1, wc (sch2 bs 48), 188⟩, ⟨b, wc s.l, T⟩])
    (fun t _ => t ≤ 64)
    (fun t => 64 - t) (0) ⟨rfl, trivial⟩ ((by rw [show k = 48 by omega] at hS; exact hS)) (Nat.zero_le _) ?_
  clear hF hS
  intro t a w H hle hF hS hJ
  replace hr := hr.mono hle
  replace hg := hg.mono hle
  have hl2 := Le.refl H
  try dsimp only at hF hJ hS
  have hJt := hJ
  have hv := rnds_ok hs (sch2 bs 48) t
  have hnx : rnds (sch2 bs 48) s (t + 1) = rnd (rnds (sch2 bs 48) s t) (gt numsL t) (gt (sch2 bs 48) t) := rfl
  obtain ⟨v, hvd⟩ : ∃ v, v = rnds (sch2 bs 48) s t := ⟨_, rfl⟩
  rw [← hvd] at hv hS hnx
  refine c_seq (fun K27 hK27 => ?_)
  refine c_reg ?_
  refine n_q hF hS (q_lss rfl rfl) rfl (fun a hF => ?_)
  refine hK27 _ _ ?_
  refine c_seq (fun K28 hK28 => ?_)
  refine spd hF (s := 70) rfl (fun hc70 hF => ?_) (fun hc70 hF => ?_)
  refine c_true hF rfl ?_
  refine wp_skip ?_
  refine hK28 _ _ ?_
  refine c_seq (fun K29 hK29 => ?_)
  refine c_block ?_
  refine c_seq (fun K30 hK30 => ?_)
  refine c_reg ?_
  refine n_q hF hS (q_move rfl) rfl (fun a hF => ?_)
  refine n_q hF hS (q_assign rfl) rfl (fun a hF => ?_)
  refine hK30 _ _ ?_
  refine c_seq (fun K31 hK31 => ?_)
  have hlt : t < 64 := by omega
  refine r_start (fun L => L) [] mo hS (fun w hS => ?_)
  refine r_q (i := 0) rfl rfl hF hS (q_indexAddrAj (j := 7) Tryd.underlying164 ty162 rfl rfl (by decide) (by decide)) rfl (fun a hF => ?_)
  refine r_q (i := 1) rfl rfl hF hS (q_load ty162 rfl (i := 0) rfl rfl rfl (show ldv false 1 (wc v.l) 7 = some (.int .u32 (v.h : Int)) from rfl)) rfl (fun a hF => ?_)
  refine r_q (i := 2) rfl rfl hF hS (q_indexAddrAj (j := 4) Tryd.underlying164 ty162 rfl rfl (by decide) (by decide)) rfl (fun a hF => ?_)
  refine r_q (i := 3) rfl rfl hF hS (q_load ty162 rfl (i := 0) rfl rfl rfl (show ldv false 1 (wc v.l) 4 = some (.int .u32 (v.e : Int)) from rfl)) rfl (fun a hF => ?_)
  refine r_q (i := 6) rfl rfl hF hS (q_indexAddrAj (j := 6) Tryd.underlying164 ty162 rfl rfl (by decide) (by decide)) rfl (fun a hF => ?_)
  refine r_q (i := 7) rfl rfl hF hS (q_load ty162 rfl (i := 0) rfl rfl rfl (show ldv false 1 (wc v.l) 6 = some (.int .u32 (v.g : Int)) from rfl)) rfl (fun a hF => ?_)
  refine r_q (i := 8) rfl rfl hF hS (q_indexAddrAj (j := 4) Tryd.underlying164 ty162 rfl rfl (by decide) (by decide)) rfl (fun a hF => ?_)
  refine r_q (i := 9) rfl rfl hF hS (q_load ty162 rfl (i := 0) rfl rfl rfl (show ldv false 1 (wc v.l) 4 = some (.int .u32 (v.e : Int)) from rfl)) rfl (fun a hF => ?_)
  refine r_q (i := 10) rfl rfl hF hS (q_indexAddrAj (j := 5) Tryd.underlying164 ty162 rfl rfl (by decide) (by decide)) rfl (fun a hF => ?_)
  refine r_q (i := 11) rfl rfl hF hS (q_load ty162 rfl (i := 0) rfl rfl rfl (show ldv false 1 (wc v.l) 5 = some (.int .u32 (v.f : Int)) from rfl)) rfl (fun a hF => ?_)
  refine r_q (i := 12) rfl rfl hF hS (q_indexAddrAj (j := 6) Tryd.underlying164 ty162 rfl rfl (by decide) (by decide)) rfl (fun a hF => ?_)
  refine r_q (i := 13) rfl rfl hF hS (q_load ty162 rfl (i := 0) rfl rfl rfl (show ldv false 1 (wc v.l) 6 = some (.int .u32 (v.g : Int)) from rfl)) rfl (fun a hF => ?_)
  refine r_q (i := 14) rfl rfl hF hS (q_xor (m := 4294967296) rfl rfl rfl rfl (gt_lt hv 5) (gt_lt hv 6)) rfl (fun a hF => ?_)
  refine r_q (i := 15) rfl rfl hF hS (q_and (m := 4294967296) rfl rfl rfl rfl (gt_lt hv 4) (Nat.xor_lt_two_pow (n := 32) (gt_lt hv 5) (gt_lt hv 6))) rfl (fun a hF => ?_)
  refine r_q (i := 16) rfl rfl hF hS (q_xor (m := 4294967296) rfl rfl rfl rfl (gt_lt hv 6) (Nat.lt_of_le_of_lt Nat.and_le_left (gt_lt hv 4))) rfl (fun a hF => ?_)
  refine r_q (i := 18) rfl rfl hF hS (q_move rfl) rfl (fun a hF => ?_)
  refine r_q (i := 19) rfl rfl hF hS (q_indexAddrAj (j := t) Tryd.underlying188 ty162 rfl rfl (by omega) (by omega)) rfl (fun a hF => ?_)
  refine r_q (i := 20) rfl rfl hF hS (q_loadG (cs := wc numsL) (v := .int .u32 (gt numsL t : Int)) ty162 rfl hg.nu (by rw [wc_length]; show t + 1 ≤ 64; omega) rfl (wc_ld2 (by show t < 64; omega))) rfl (fun a hF => ?_)
  refine r_q (i := 22) rfl rfl hF hS (q_move rfl) rfl (fun a hF => ?_)
  refine r_q (i := 23) rfl rfl hF hS (q_indexAddrAj (j := t) Tryd.underlying188 ty162 rfl rfl (by omega) (by omega)) rfl (fun a hF => ?_)
  refine r_q (i := 24) rfl rfl hF hS (q_load ty162 rfl (i := 1) rfl (by rw [Nat.ble_eq, wc_length, sch2_length]; omega) rfl (show ldv false 1 (wc (sch2 bs 48)) t = some (.int .u32 (gt (sch2 bs 48) t : Int)) from wc_ld2 (by rw [sch2_length]; omega))) rfl (fun a hF => ?_)
  refine r_one (i := 4) (by kernel_rfl) ?_
  have hsub := hS.sub
  refine r_li rfl rfl (fun K32 hK32 => l_call en118 hF rfl rfl (rotated_c v.e 6 11 25 (gt_lt hv 4) (by decide) (by decide) (by decide) _ _ hS.fz) (fun v32 w hR a hF => ?_))
  obtain ⟨rfl, hc⟩ := hR
  replace hS := hS.call0 hc
  refine hK32 _ _ _ hS (fun _ h => h) ?_
  refine r_q (i := 5) rfl rfl hF hS (q_add32 rfl rfl) rfl (fun a hF => ?_)
  refine r_q (i := 17) rfl rfl hF hS (q_add32 rfl rfl) rfl (fun a hF => ?_)
  refine r_q (i := 21) rfl rfl hF hS (q_add32 rfl rfl) rfl (fun a hF => ?_)
  refine r_q (i := 25) rfl rfl hF hS (q_add32 rfl rfl) rfl (fun a hF => ?_)
  refine r_q (i := 26) rfl rfl hF hS (q_assign rfl) rfl (fun a hF => ?_)
  refine r_done (by kernel_rfl) ?_
  refine hK31 _ _ ?_
  refine c_seq (fun K33 hK33 => ?_)
  refine r_start (fun L => L) [] mo hS (fun w hS => ?_)
  refine r_q (i := 0) rfl rfl hF hS (q_indexAddrAj (j := 0) Tryd.underlying164 ty162 rfl rfl (by decide) (by decide)) rfl (fun a hF => ?_)
  refine r_q (i := 1) rfl rfl hF hS (q_load ty162 rfl (i := 0) rfl rfl rfl (show ldv false 1 (wc v.l) 0 = some (.int .u32 (v.a : Int)) from rfl)) rfl (fun a hF => ?_)
  refine r_q (i := 3) rfl rfl hF hS (q_indexAddrAj (j := 0) Tryd.underlying164 ty162 rfl rfl (by decide) (by decide)) rfl (fun a hF => ?_)
  refine r_q (i := 4) rfl rfl hF hS (q_load ty162 rfl (i := 0) rfl rfl rfl (show ldv false 1 (wc v.l) 0 = some (.int .u32 (v.a : Int)) from rfl)) rfl (fun a hF => ?_)
  refine r_q (i := 5) rfl rfl hF hS (q_indexAddrAj (j := 1) Tryd.underlying164 ty162 rfl rfl (by decide) (by decide)) rfl (fun a hF => ?_)
  refine r_q (i := 6) rfl rfl hF hS (q_load ty162 rfl (i := 0) rfl rfl rfl (show ldv false 1 (wc v.l) 1 = some (.int .u32 (v.b : Int)) from rfl)) rfl (fun a hF => ?_)
  refine r_q (i := 7) rfl rfl hF hS (q_and (m := 4294967296) rfl rfl rfl rfl (gt_lt hv 0) (gt_lt hv 1)) rfl (fun a hF => ?_)
  refine r_q (i := 8) rfl rfl hF hS (q_indexAddrAj (j := 2) Tryd.underlying164 ty162 rfl rfl (by decide) (by decide)) rfl (fun a hF => ?_)
  refine r_q (i := 9) rfl rfl hF hS (q_load ty162 rfl (i := 0) rfl rfl rfl (show ldv false 1 (wc v.l) 2 = some (.int .u32 (v.c : Int)) from rfl)) rfl (fun a hF => ?_)
  refine r_q (i := 10) rfl rfl hF hS (q_indexAddrAj (j := 0) Tryd.underlying164 ty162 rfl rfl (by decide) (by decide)) rfl (fun a hF => ?_)
  refine r_q (i := 11) rfl rfl hF hS (q_load ty162 rfl (i := 0) rfl rfl rfl (show ldv false 1 (wc v.l) 0 = some (.int .u32 (v.a : Int)) from rfl)) rfl (fun a hF => ?_)
  refine r_q (i := 12) rfl rfl hF hS (q_indexAddrAj (j := 1) Tryd.underlying164 ty162 rfl rfl (by decide) (by decide)) rfl (fun a hF => ?_)
  refine r_q (i := 13) rfl rfl hF hS (q_load ty162 rfl (i := 0) rfl rfl rfl (show ldv false 1 (wc v.l) 1 = some (.int .u32 (v.b : Int)) from rfl)) rfl (fun a hF => ?_)
  refine r_q (i := 14) rfl rfl hF hS (q_or (m := 4294967296) rfl rfl rfl rfl (gt_lt hv 0) (gt_lt hv 1)) rfl (fun a hF => ?_)
  refine r_q (i := 15) rfl rfl hF hS (q_and (m := 4294967296) rfl rfl rfl rfl (gt_lt hv 2) (Nat.or_lt_two_pow (n := 32) (gt_lt hv 0) (gt_lt hv 1))) rfl (fun a hF => ?_)
  refine r_q (i := 16) rfl rfl hF hS (q_or (m := 4294967296) rfl rfl rfl rfl (Nat.lt_of_le_of_lt Nat.and_le_left (gt_lt hv 0)) (Nat.lt_of_le_of_lt Nat.and_le_left (gt_lt hv 2))) rfl (fun a hF => ?_)
  refine r_one (i := 2) (by kernel_rfl) ?_
  have hsub := hS.sub
  refine r_li rfl rfl (fun K34 hK34 => l_call en118 hF rfl rfl (rotated_c v.a 2 13 22 (gt_lt hv 0) (by decide) (by decide) (by decide) _ _ hS.fz) (fun v34 w hR a hF => ?_))
  obtain ⟨rfl, hc⟩ := hR
  replace hS := hS.call0 hc
  refine hK34 _ _ _ hS (fun _ h => h) ?_
  refine r_q (i := 17) rfl rfl hF hS (q_add32 rfl rfl) rfl (fun a hF => ?_)
  refine r_q (i := 18) rfl rfl hF hS (q_assign rfl) rfl (fun a hF => ?_)
  refine r_done (by kernel_rfl) ?_
  refine hK33 _ _ ?_
  refine c_seq (fun K35 hK35 => ?_)
  refine r_start (fun L => L) [2] mo hS (fun w hS => ?_)
  refine r_q (i := 0) rfl rfl hF hS (q_sliceA (n := 8) (l := 1) (h := 8) Tryd.underlying164 ty162 rfl rfl ⟨_, rfl, by decide⟩ (by decide)) rfl (fun a hF => ?_)
  refine r_q (i := 1) rfl rfl hF hS (q_sliceA (n := 8) (l := 0) (h := 7) Tryd.underlying164 ty162 rfl ⟨_, rfl, by decide⟩ rfl (by decide)) rfl (fun a hF => ?_)
  refine r_one (i := 2) (by kernel_rfl) ?_
  refine r_lL rfl rfl rfl (fun K36 hK36 => l_copyG (k := 7) (news := wc [v.a, v.b, v.c, v.d, v.e, v.f, v.g]) Tryd.underlying192 ty162 hF hS rfl rfl (i := 0) rfl rfl rfl (by rw [wc_length]; show 0 + 1 * 1 + 7 * 1 ≤ 8; decide) rfl (fun _ => ⟨_, _, rfl, fun j u hj => cell_of_own hS (i := 0) rfl (abs_first hj)⟩) rfl (fun a w hF hS => hK36 _ _ ?_))
  have hcp : spl (wc v.l) (0 + 1 * 1) (wc [v.a, v.b, v.c, v.d, v.e, v.f, v.g]) = wc [v.a, v.a, v.b, v.c, v.d, v.e, v.f, v.g] := rfl
  refine r_done (by kernel_rfl) ?_
  refine hK35 _ _ ?_
  refine c_seq (fun K37 hK37 => ?_)
  refine c_reg ?_
  refine n_q hF hS (q_indexAddrAj (j := 4) Tryd.underlying164 ty162 rfl rfl (by decide) (by decide)) rfl (fun a hF => ?_)
  refine n_q hF hS (q_load ty162 rfl (i := 0) rfl rfl rfl (show ldv false 1 (wc [v.a, v.a, v.b, v.c, v.d, v.e, v.f, v.g]) 4 = some (.int .u32 (v.d : Int)) from rfl)) rfl (fun a hF => ?_)
  refine n_q hF hS (q_move rfl) rfl (fun a hF => ?_)
  refine n_q hF hS (q_add32 rfl rfl) rfl (fun a hF => ?_)
  refine n_q hF hS (q_indexAddrAj (j := 4) Tryd.underlying164 ty162 rfl rfl (by decide) (by decide)) rfl (fun a hF => ?_)
  refine n_l rfl (fun K38 hK38 => l_store (vs := [_]) ty162 hF hS rfl rfl (i := 0) rfl rfl rfl rfl rfl (fun a w hF hS => hK38 _ _ ?_))
  refine hK37 _ _ ?_
  refine c_reg ?_
  refine n_q hF hS (q_move rfl) rfl (fun a hF => ?_)
  refine n_q hF hS (q_move rfl) rfl (fun a hF => ?_)
  refine n_q hF hS (q_add32 rfl rfl) rfl (fun a hF => ?_)
  refine n_q hF hS (q_indexAddrAj (j := 0) Tryd.underlying164 ty162 rfl rfl (by decide) (by decide)) rfl (fun a hF => ?_)
  refine n_l rfl (fun K39 hK39 => l_store (vs := [_]) ty162 hF hS rfl rfl (i := 0) rfl rfl rfl rfl rfl (fun a w hF hS => hK39 _ _ ?_))
  refine hK29 _ _ ?_
  refine c_reg ?_
  refine n_q hF hS (q_addI rfl rfl (by omega)) rfl (fun a hF => ?_)
  refine n_q hF hS (q_move rfl) rfl (fun a hF => ?_)
  exact ⟨t + 1, _, (by show 64 - (t + 1) < 64 - t; omega), hl2, hF.back ⟨rfl, trivial⟩ rfl (by repeat first | exact Ext.refl _ _ | refine Ext.rem' rfl ?_ | refine Ext.push rfl ?_), (by rw [hnx]; exact hS), (by omega)⟩
  refine c_false hF rfl ?_
  refine c_exit ?_
  refine hK25 _ _ ?_
  refine c_seq (fun K40 hK40 => ?_)
  refine c_reg ?_
  refine n_q hF hS (q_move rfl) rfl (fun a hF => ?_)
  refine hK40 _ _ ?_
  refine c_block ?_
  refine c_loopL hF [13, 129, 130, 131, 132, 133, 134, 135, 136, 137, 138, 139, 140, 141, 142, 143]
    (fun i : Nat => [(129, .int .i64 (i : Int))])
    (fun i => [⟨b2, wc v.l, 164⟩, ⟨b1, wc (sch2 bs 48), 188⟩, ⟨b, wc (addK s.l v.l i), T⟩])
    (fun i _ => i ≤ 8)
    (fun i => 8 - i) (0) ⟨rfl, trivial⟩ ((by rw [addK_zero]; exact hS)) (Nat.zero_le _) ?_
  clear hF hS
  intro i a w H hle hF hS hJ
  replace hr := hr.mono hle
  replace hg := hg.mono hle
  have hl3 := Le.refl H
  try dsimp only at hF hJ hS
  refine c_seq (fun K41 hK41 => ?_)
  refine c_reg ?_
  refine n_q hF hS (q_lss rfl rfl) rfl (fun a hF => ?_)
  refine hK41 _ _ ?_
  refine c_seq (fun K42 hK42 => ?_)
  refine spd hF (s := 130) rfl (fun hc130 hF => ?_) (fun hc130 hF => ?_)
  refine c_true hF rfl ?_
  refine wp_skip ?_
  refine hK42 _ _ ?_
  refine c_seq (fun K43 hK43 => ?_)
  refine c_block ?_
  refine c_seq (fun K44 hK44 => ?_)
  refine c_reg ?_
  refine n_q hF hS (q_move rfl) rfl (fun a hF => ?_)
  refine n_q hF hS (q_assign rfl) rfl (fun a hF => ?_)
  refine hK44 _ _ ?_
  have hlt : i < 8 := by omega
  refine r_start (fun L => L) [11] mo hS (fun w hS => ?_)
  refine r_q (i := 0) rfl rfl hF hS (q_move rfl) rfl (fun a hF => ?_)
  refine r_q (i := 1) rfl rfl hF hS (q_move rfl) rfl (fun a hF => ?_)
  refine r_q (i := 2) rfl rfl hF hS (q_nilCheck rfl) rfl (fun a hF => ?_)
  refine r_q (i := 3) rfl rfl hF hS (q_indexAddrAj (j := i) Tryd.underlying164 ty162 rfl rfl (by omega) (by omega)) rfl (fun a hF => ?_)
  refine r_q (i := 4) rfl rfl hF hS (q_load ty162 rfl (i := 2) rfl (by rw [Nat.ble_eq, wc_length, addK_length]; omega) rfl (show ldv false 1 (wc (addK s.l v.l i)) i = some (.int .u32 (gt (addK s.l v.l i) i : Int)) from wc_ld2 (by rw [addK_length]; omega))) rfl (fun a hF => ?_)
  refine r_q (i := 5) rfl rfl hF hS (q_move rfl) rfl (fun a hF => ?_)
  refine r_q (i := 6) rfl rfl hF hS (q_indexAddrAj (j := i) Tryd.underlying164 ty162 rfl rfl (by omega) (by omega)) rfl (fun a hF => ?_)
  refine r_q (i := 7) rfl rfl hF hS (q_load ty162 rfl (i := 0) rfl (by rw [Nat.ble_eq, wc_length]; show i + 1 ≤ 8; omega) rfl (show ldv false 1 (wc v.l) i = some (.int .u32 (gt v.l i : Int)) from wc_ld2 (by show i < 8; omega))) rfl (fun a hF => ?_)
  refine r_q (i := 8) rfl rfl hF hS (q_add32 rfl rfl) rfl (fun a hF => ?_)
  refine r_q (i := 9) rfl rfl hF hS (q_nilCheck rfl) rfl (fun a hF => ?_)
  refine r_q (i := 10) rfl rfl hF hS (q_indexAddrAj (j := i) Tryd.underlying164 ty162 rfl rfl (by omega) (by omega)) rfl (fun a hF => ?_)
  refine r_one (i := 11) (by kernel_rfl) ?_
  refine r_lL rfl rfl rfl (fun K45 hK45 => l_store (vs := [_]) ty162 hF hS rfl rfl (i := 2) rfl rfl rfl (by rw [Nat.ble_eq, wc_length, addK_length]; omega) rfl (fun a w hF hS => hK45 _ _ ?_))
  refine r_done (by kernel_rfl) ?_
  refine hK43 _ _ ?_
  refine c_reg ?_
  refine n_q hF hS (q_addI rfl rfl (by omega)) rfl (fun a hF => ?_)
  refine n_q hF hS (q_move rfl) rfl (fun a hF => ?_)
  exact ⟨i + 1, _, (by show 8 - (i + 1) < 8 - i; omega), hl3, hF.back ⟨rfl, trivial⟩ rfl (by repeat first | exact Ext.refl _ _ | refine Ext.rem' rfl ?_ | refine Ext.push rfl ?_), (by dsimp only [List.set] at hS; rw [wc_spl2 (by rw [addK_length]; omega), addK_succ _ _ _ hlt] at hS; exact hS), (by omega)⟩
  refine c_false hF rfl ?_
  refine c_exit ?_
  repeat (first | refine ex_then ?_ | refine ex_blk ?_)
  refine c_norm (P := Tryd.prog) (fn := Tryd.f99) rfl hF hS .nil ⟨_, rfl, ?_⟩
  have hi8 : i = 8 := by omega
  have ht64 : t = 64 := by omega
  rw [ht64] at hvd
  rw [hi8, addK_eight, hvd] at hS
  exact ⟨rfl, (hS.lose (.cons _ (.cons _ (.refl _)))).down⟩
end Go.Proofs.YtneokajhmonpaaaDoor

namespace Go.Proofs.YtneokajhmonpaaaDoor
open Go Go.RowKit Go.W
set_option maxRecDepth 10000
open Fx

theorem Grow_c (m : Nat) (hm : m ≤ 1099511627776) (w : World) (H : Froz) (hz : Fz H w) :
    CallsR Tryd.prog 90 [.slice none 0 0, .int .i64 (m : Int)] w fun v w' => ∃ ad cp Lx, v = .slice ad 0 cp ∧ OwS 5 1 (.slice ad 0 cp) 0 [] Lx ∧ St ⟨w, H, []⟩ H Lx w' := by
  refine calls_start Tryd.func90 rfl Tryd.ntmps90 rfl (fun a hF => ?_)
  have hS := St.start w H hz
  refine c_seq (fun K1 hK1 => ?_)
  refine c_reg ?_
  refine n_q hF hS (q_assign rfl) rfl (fun a hF => ?_)
  refine hK1 _ _ ?_
  refine c_seq (fun K2 hK2 => ?_)
  refine c_seq (fun K3 hK3 => ?_)
  refine c_reg ?_
  refine n_q hF hS (q_move rfl) rfl (fun a hF => ?_)
  refine n_q hF hS (q_lss rfl rfl) rfl (fun a hF => ?_)
  refine hK3 _ _ ?_
  refine spF hF (s := 6) rfl (by omega) (fun hF => ?_)
  refine c_false hF rfl ?_
  refine wp_skip ?_
  refine hK2 _ _ ?_
  refine c_seq (fun K4 hK4 => ?_)
  refine c_seq (fun K5 hK5 => ?_)
  refine c_reg ?_
  refine n_q hF hS (q_move rfl) rfl (fun a hF => ?_)
  refine n_q hF hS (q_move rfl) rfl (fun a hF => ?_)
  refine n_q hF hS (q_cap Tryd.underlying46 rfl rfl) rfl (fun a hF => ?_)
  refine n_q hF hS (q_move rfl) rfl (fun a hF => ?_)
  refine n_q hF hS (q_len Tryd.underlying46 rfl rfl) rfl (fun a hF => ?_)
  refine n_q hF hS (q_subI rfl rfl (by omega)) rfl (fun a hF => ?_)
  refine n_q hF hS (q_subI rfl rfl (by omega)) rfl (fun a hF => ?_)
  refine n_q hF hS (q_assign rfl) rfl (fun a hF => ?_)
  refine hK5 _ _ ?_
  refine c_seq (fun K6 hK6 => ?_)
  refine c_reg ?_
  refine rw_ hF (s := 1) (u := .int .i64 (m : Int)) rfl (by simp) (fun hF => ?_)
  refine n_q hF hS (q_move rfl) rfl (fun a hF => ?_)
  refine n_q hF hS (q_gtr rfl rfl) rfl (fun a hF => ?_)
  refine hK6 _ _ ?_
  refine spd hF (s := 16) rfl (fun hc16 hF => ?_) (fun hc16 hF => ?_)
  refine c_true hF rfl ?_
  refine c_reg ?_
  refine n_q hF hS (q_move rfl) rfl (fun a hF => ?_)
  refine n_q hF hS (q_move rfl) rfl (fun a hF => ?_)
  refine n_q hF hS (q_cap Tryd.underlying46 rfl rfl) rfl (fun a hF => ?_)
  refine n_q hF hS (q_sliceP (h := 0) Tryd.underlying46 ty5 rfl rfl (by omega)) rfl (fun a hF => ?_)
  refine n_q hF hS (q_move rfl) rfl (fun a hF => ?_)
  refine n_l rfl (fun K7 hK7 => l_appendZ (m := m) Tryd.underlying46 Tryd.underlying3 ty5 zr5 bt5 hF hS rfl rfl (by omega) (by omega) (by simp only [maxLen]; omega) rfl rfl rfl (fun a w bz cz tz htz hmz hcz hF hS => hK7 _ _ ?_))
  refine n_q hF hS (q_move rfl) rfl (fun a hF => ?_)
  refine n_q hF hS (q_len Tryd.underlying46 rfl rfl) rfl (fun a hF => ?_)
  refine n_q hF hS (q_sliceP (h := 0) Tryd.underlying46 ty5 rfl rfl (by omega)) rfl (fun a hF => ?_)
  refine n_q hF hS (q_assign rfl) rfl (fun a hF => ?_)
  refine hK4 _ _ ?_
  refine c_seq (fun K8 hK8 => ?_)
  refine c_reg ?_
  refine n_q hF hS (q_move rfl) rfl (fun a hF => ?_)
  refine n_q hF hS (q_assign rfl) rfl (fun a hF => ?_)
  refine hK8 _ _ ?_
  refine c_ret ?_
  repeat (first | refine ret_then ?_ | refine ret_blk ?_)
  refine c_ret' (P := Tryd.prog) (fn := Tryd.f90) rfl hF hS (.tmp rfl .nil) ⟨_, rfl, ?_⟩
  refine ⟨_, _, [⟨bz, [] ++ tz, 5⟩], rfl, .row (by simp) (by simpa using htz) (Nat.zero_le _) hcz, hS⟩
  refine c_false hF rfl ?_
  refine wp_skip ?_
  refine hK4 _ _ ?_
  refine c_seq (fun K9 hK9 => ?_)
  refine c_reg ?_
  refine n_q hF hS (q_move rfl) rfl (fun a hF => ?_)
  refine n_q hF hS (q_assign rfl) rfl (fun a hF => ?_)
  refine hK9 _ _ ?_
  refine c_ret ?_
  repeat (first | refine ret_then ?_ | refine ret_blk ?_)
  refine c_ret' (P := Tryd.prog) (fn := Tryd.f90) rfl hF hS (.tmp rfl .nil) ⟨_, rfl, ?_⟩
  exact ⟨none, 0, [], rfl, .nil, hS.same⟩

theorem Concat_c (xs : List Sl) (a : Option Addr) (c : Nat) (hlen : xs.length ≤ 1000) (hb : (xs.map Sl.n).sum ≤ 1099511627776) (w : World) (H : Froz) (hz : Fz H w) (hr : RdL H a 1 (slE xs)) (hall : AllSl H xs) :
    CallsR Tryd.prog 55 [.slice a xs.length c] w fun v w' => ∃ ad cp Lx, v = .slice ad (xs.map Sl.n).sum cp ∧ OwS 5 1 (.slice ad (xs.map Sl.n).sum cp) (xs.map Sl.n).sum (bc (xs.flatMap Sl.bs)) Lx ∧ St ⟨w, H, []⟩ H Lx w' := by
  refine calls_start Tryd.func55 rfl Tryd.ntmps55 rfl (fun a hF => ?_)
  have hS := St.start w H hz
  refine c_seq (fun K1 hK1 => ?_)
  refine c_reg ?_
  refine n_q hF hS (q_assign rfl) rfl (fun a hF => ?_)
  refine hK1 _ _ ?_
  refine c_seq (fun K2 hK2 => ?_)
  refine c_reg ?_
  refine n_q hF hS (q_assign rfl) rfl (fun a hF => ?_)
  refine hK2 _ _ ?_
  refine c_seq (fun K3 hK3 => ?_)
  refine c_seq (fun K4 hK4 => ?_)
  refine c_reg ?_
  refine n_q hF hS (q_move rfl) rfl (fun a hF => ?_)
  refine n_q hF hS (q_len Tryd.underlying152 rfl rfl) rfl (fun a hF => ?_)
  refine n_q hF hS (q_move rfl) rfl (fun a hF => ?_)
  refine hK4 _ _ ?_
  refine c_block ?_
  refine c_loopS hF [3, 5, 11, 12, 13, 14, 15, 16, 17, 18, 19, 20, 21, 22]
    (fun k : Nat => [(3, .int .i64 (sumN xs k : Int)), (11, .int .i64 (k : Int))])
    (fun _ => [])
    (fun k _ => k ≤ xs.length)
    (fun k => xs.length - k) (0) ⟨rfl, rfl, trivial⟩ (hS) (Nat.zero_le _) ?_
  clear hF hS
  intro k a w H hle hF hS hJ
  replace hr := hr.mono hle
  replace hall := hall.mono hle
  have hl0 := Le.refl H
  try dsimp only at hF hJ hS
  refine c_seq (fun K5 hK5 => ?_)
  refine c_reg ?_
  refine n_q hF hS (q_lss rfl rfl) rfl (fun a hF => ?_)
  refine hK5 _ _ ?_
  refine c_seq (fun K6 hK6 => ?_)
  refine spd hF (s := 12) rfl (fun hc12 hF => ?_) (fun hc12 hF => ?_)
  refine c_true hF rfl ?_
  refine wp_skip ?_
  refine hK6 _ _ ?_
  refine c_seq (fun K7 hK7 => ?_)
  refine c_block ?_
  refine c_seq (fun K8 hK8 => ?_)
  refine c_reg ?_
  have hlt : k < xs.length := by omega
  have hel : (slE xs)[k]? = some [Value.slice xs[k].a xs[k].n xs[k].c] := by simp [slE, hlt]
  have hsu := sumN_succ hlt
  have hsl := sumN_le xs (k + 1)
  refine n_q hF hS (q_indexAddrS Tryd.underlying152 ty46 rfl rfl (by omega) (hr.some (by rw [slE_length]; omega))) rfl (fun a hF => ?_)
  refine n_q hF hS (q_loadL0 ty46 rfl hr hel (by decide) rfl rfl) rfl (fun a hF => ?_)
  refine n_q hF hS (q_assign rfl) rfl (fun a hF => ?_)
  refine hK8 _ _ ?_
  refine c_seq (fun K9 hK9 => ?_)
  refine c_reg ?_
  refine n_q hF hS (q_move rfl) rfl (fun a hF => ?_)
  refine n_q hF hS (q_move rfl) rfl (fun a hF => ?_)
  refine n_q hF hS (q_len Tryd.underlying46 rfl rfl) rfl (fun a hF => ?_)
  refine n_q hF hS (q_addI rfl rfl (by omega)) rfl (fun a hF => ?_)
  refine n_q hF hS (q_assign rfl) rfl (fun a hF => ?_)
  refine hK9 _ _ ?_
  refine c_seq (fun K10 hK10 => ?_)
  refine c_reg ?_
  refine n_q hF hS (q_move rfl) rfl (fun a hF => ?_)
  refine n_q hF hS (q_lss rfl rfl) rfl (fun a hF => ?_)
  refine hK10 _ _ ?_
  refine spF hF (s := 20) rfl (by omega) (fun hF => ?_)
  refine c_false hF rfl ?_
  refine wp_skip ?_
  refine hK7 _ _ ?_
  refine c_reg ?_
  refine n_q hF hS (q_addI rfl rfl (by omega)) rfl (fun a hF => ?_)
  refine n_q hF hS (q_move rfl) rfl (fun a hF => ?_)
  exact ⟨k + 1, _, (by show xs.length - (k + 1) < xs.length - k; omega), hl0, hF.back ⟨by show some (Value.int _ _) = some (Value.int _ _); rw [hsu]; push_cast; rfl, rfl, trivial⟩ rfl (by repeat first | exact Ext.refl _ _ | refine Ext.rem' rfl ?_ | refine Ext.push rfl ?_), hS.lose (.refl _), (by omega)⟩
  refine c_false hF rfl ?_
  refine c_exit ?_
  refine hK3 _ _ ?_
  refine c_seq (fun K11 hK11 => ?_)
  refine c_reg ?_
  have hsm : sumN xs k ≤ 1099511627776 := by have := sumN_le xs k; omega
  refine n_q hF hS (q_move rfl) rfl (fun a hF => ?_)
  refine n_l rfl (fun K12 hK12 => l_call en90 hF rfl rfl (Grow_c _ hsm _ _ hS.fz) (fun v12 w hR a hF => ?_))
  obtain ⟨ad, cp, Lx, rfl, ho, hc⟩ := hR
  replace hS : St _ _ (Lx ++ []) _ := hS.call hc
  refine hK12 _ _ ?_
  refine n_q hF hS (q_assign rfl) rfl (fun a hF => ?_)
  refine hK11 _ _ ?_
  refine c_seq (fun K13 hK13 => ?_)
  refine c_seq (fun K14 hK14 => ?_)
  refine c_reg ?_
  refine n_q hF hS (q_move rfl) rfl (fun a hF => ?_)
  refine n_q hF hS (q_len Tryd.underlying152 rfl rfl) rfl (fun a hF => ?_)
  refine n_q hF hS (q_move rfl) rfl (fun a hF => ?_)
  refine hK14 _ _ ?_
  refine c_block ?_
  have hd0 := hJ
  refine c_loopL hF [6, 8, 27, 28, 29, 30, 31, 32, 33, 34]
    (fun g : Nat × Option Addr × Nat × List Blk => [(6, .slice g.2.1 (sumN xs g.1) g.2.2.1), (27, .int .i64 (g.1 : Int))])
    (fun g => g.2.2.2 ++ [])
    (fun g _ => g.1 ≤ xs.length ∧ OwS 5 1 (.slice g.2.1 (sumN xs g.1) g.2.2.1) (sumN xs g.1) (bc (catN xs g.1)) g.2.2.2)
    (fun g => xs.length - g.1) ((0, ad, cp, Lx)) ⟨rfl, rfl, trivial⟩ (hS) (⟨Nat.zero_le _, ho⟩) ?_
  clear hF hS
  intro g a w H hle hF hS hJ
  replace hr := hr.mono hle
  replace hall := hall.mono hle
  have hl1 := Le.refl H
  obtain ⟨k, ad, cp, Lx⟩ := g
  try dsimp only at hF hJ hS
  refine c_seq (fun K15 hK15 => ?_)
  refine c_reg ?_
  refine n_q hF hS (q_lss rfl rfl) rfl (fun a hF => ?_)
  refine hK15 _ _ ?_
  refine c_seq (fun K16 hK16 => ?_)
  refine spd hF (s := 28) rfl (fun hc28 hF => ?_) (fun hc28 hF => ?_)
  refine c_true hF rfl ?_
  refine wp_skip ?_
  refine hK16 _ _ ?_
  refine c_seq (fun K17 hK17 => ?_)
  refine c_block ?_
  refine c_seq (fun K18 hK18 => ?_)
  refine c_reg ?_
  have hlt : k < xs.length := by have := hJ.1; omega
  have hel : (slE xs)[k]? = some [Value.slice xs[k].a xs[k].n xs[k].c] := by simp [slE, hlt]
  have hsu := sumN_succ hlt
  have hsl := sumN_le xs (k + 1)
  have hcs := catN_succ hlt
  refine n_q hF hS (q_indexAddrS Tryd.underlying152 ty46 rfl rfl (by omega) (hr.some (by rw [slE_length]; omega))) rfl (fun a hF => ?_)
  refine n_q hF hS (q_loadL0 ty46 rfl hr hel (by decide) rfl rfl) rfl (fun a hF => ?_)
  refine n_q hF hS (q_assign rfl) rfl (fun a hF => ?_)
  refine hK18 _ _ ?_
  refine c_reg ?_
  refine n_q hF hS (q_move rfl) rfl (fun a hF => ?_)
  refine n_q hF hS (q_move rfl) rfl (fun a hF => ?_)
  refine n_l rfl (fun K19 hK19 => l_append (L := []) Tryd.underlying46 ty5 zr5 bt5 hF hS rfl rfl (hJ.2) (.slice Tryd.underlying46 (hall xs[k] (List.getElem_mem hlt)) (bc_all1 _)) (by rw [← hsu]; omega) (by rw [← hsu]; simp only [maxLen]; omega) rfl rfl (fun a w c13_2 ad13_2 Lx13_2 ho13_2 hF hS => hK19 _ _ ?_))
  rw [← hsu] at ho13_2 hF
  rw [← bc_append, ← hcs] at ho13_2
  refine n_q hF hS (q_assign rfl) rfl (fun a hF => ?_)
  refine hK17 _ _ ?_
  refine c_reg ?_
  refine n_q hF hS (q_addI rfl rfl (by omega)) rfl (fun a hF => ?_)
  refine n_q hF hS (q_move rfl) rfl (fun a hF => ?_)
  exact ⟨(k + 1, ad13_2, c13_2, Lx13_2), _, (by show xs.length - (k + 1) < xs.length - k; omega), hl1, hF.back ⟨rfl, rfl, trivial⟩ rfl (by repeat first | exact Ext.refl _ _ | refine Ext.rem' rfl ?_ | refine Ext.push rfl ?_), hS.lose (.refl _), ⟨by show k + 1 ≤ xs.length; omega, ho13_2⟩⟩
  refine c_false hF rfl ?_
  refine c_exit ?_
  refine hK13 _ _ ?_
  refine c_seq (fun K20 hK20 => ?_)
  refine c_reg ?_
  refine n_q hF hS (q_move rfl) rfl (fun a hF => ?_)
  refine n_q hF hS (q_assign rfl) rfl (fun a hF => ?_)
  refine hK20 _ _ ?_
  refine c_ret ?_
  repeat (first | refine ret_then ?_ | refine ret_blk ?_)
  refine c_ret' (P := Tryd.prog) (fn := Tryd.f55) rfl hF hS (.tmp rfl .nil) ⟨_, rfl, ?_⟩
  have hk : k = xs.length := by have := hJ.1; omega
  obtain ⟨hJ1, hJ2⟩ := hJ
  rw [hk, sumN_all (Nat.le_refl _), show catN xs xs.length = xs.flatMap Sl.bs by unfold catN; rw [List.take_length]] at hJ2
  rw [hk] at hF
  refine ⟨ad, cp, Lx, ?_, hJ2, ?_⟩
  · show Value.slice _ _ _ = _
    rw [hk, sumN_all (Nat.le_refl _)]
  · rw [List.append_nil] at hS
    exact hS.down
end Go.Proofs.YtneokajhmonpaaaDoor

namespace Go.Proofs.YtneokajhmonpaaaDoor
open Go Go.RowKit Go.W
set_option maxRecDepth 10000
open Fx

set_option maxHeartbeats 800000 in
theorem Sum_c (bs : List UInt8) (a0 : Option Addr) (n c : Nat) (hn : n ≤ 1099511627776) (hc : n ≤ c) (w : World) (H : Froz) (hz : Fz H w) (hg : Gl 0 1 H) (hr : RdS H a0 n 1 (bc bs)) :
    CallsR Tryd.prog 65 [.slice a0 n c] w fun v w' => v = .agg (dc (shaD bs)).toArray ∧ St ⟨w, H, []⟩ H [] w' := by
  refine calls_start Tryd.func65 rfl Tryd.ntmps65 rfl (fun a hF => ?_)
  have hS := St.start w H hz
  have hbl := hr.bytes
  subst hbl
  refine c_seq (fun K1 hK1 => ?_)
  refine c_reg ?_
  refine n_l rfl (fun K2 hK2 => l_alloc hF hS zr35 rfl (fun a w b1 hF hS => hK2 _ _ ?_))
  refine hK1 _ _ ?_
  refine c_seq (fun K3 hK3 => ?_)
  refine c_reg ?_
  refine n_q hF hS (q_loadG (cs := wc startV.l) (v := .agg (wc startV.l).toArray) ty163 rfl hg.st (by decide) rfl rfl) rfl (fun a hF => ?_)
  refine n_l rfl (fun K4 hK4 => l_alloc hF hS zr164 rfl (fun a w b2 hF hS => hK4 _ _ ?_))
  refine n_l rfl (fun K5 hK5 => l_store0A ty164 hF hS rfl rfl (i := 0) rfl rfl rfl rfl (fun a w hF hS => hK5 _ _ ?_))
  refine hK3 _ _ ?_
  refine c_seq (fun K6 hK6 => ?_)
  refine c_reg ?_
  refine n_q hF hS (q_makeFunc rfl rfl) rfl (fun a hF => ?_)
  refine n_q hF hS (q_assign rfl) rfl (fun a hF => ?_)
  refine hK6 _ _ ?_
  refine c_seq (fun K7 hK7 => ?_)
  refine c_reg ?_
  refine n_q hF hS (q_move rfl) rfl (fun a hF => ?_)
  refine n_q hF hS (q_assign rfl) rfl (fun a hF => ?_)
  refine hK7 _ _ ?_
  refine c_seq (fun K8 hK8 => ?_)
  refine c_block ?_
  refine c_loopL hF [5, 12, 13, 14, 15, 16, 17, 18, 19, 20]
    (fun g : Nat × Option Addr => [(5, .slice g.2 (bs.length - 64 * g.1) (c - 64 * g.1))])
    (fun g => [⟨b2, wc (absorbs startV bs g.1).l, 164⟩, ⟨b1, bc (List.replicate 32 0), 35⟩])
    (fun g H => 64 * g.1 ≤ bs.length ∧ RdS H g.2 (bs.length - 64 * g.1) 1 (bc (bs.drop (64 * g.1))))
    (fun g => bs.length - 64 * g.1) ((0, a0)) ⟨rfl, trivial⟩ (hS) (⟨Nat.zero_le _, hr⟩) ?_
  clear hF hS
  intro g a w H hle hF hS hJ
  replace hr := hr.mono hle
  replace hg := hg.mono hle
  have hl0 := Le.refl H
  obtain ⟨k, ad⟩ := g
  obtain ⟨hj, hjr⟩ := hJ
  try dsimp only at hF hS hj hjr
  refine c_seq (fun K9 hK9 => ?_)
  refine c_seq (fun K10 hK10 => ?_)
  refine c_reg ?_
  refine n_q hF hS (q_move rfl) rfl (fun a hF => ?_)
  refine n_q hF hS (q_len Tryd.underlying46 rfl rfl) rfl (fun a hF => ?_)
  refine n_q hF hS (q_geq rfl rfl) rfl (fun a hF => ?_)
  refine hK10 _ _ ?_
  refine spd hF (s := 14) rfl (fun hc14 hF => ?_) (fun hc14 hF => ?_)
  refine c_true hF rfl ?_
  refine wp_skip ?_
  refine hK9 _ _ ?_
  refine c_seq (fun K11 hK11 => ?_)
  refine c_block ?_
  refine c_reg ?_
  refine n_q hF hS (q_move rfl) rfl (fun a hF => ?_)
  refine n_q hF hS (q_move rfl) rfl (fun a hF => ?_)
  refine n_q hF hS (q_sliceP (h := 64) Tryd.underlying46 ty5 rfl rfl (by omega)) rfl (fun a hF => ?_)
  refine n_l rfl (fun K12 hK12 => l_callv en99 hF rfl rfl rfl (absorb_c b2 (absorbs startV bs k) ((bs.drop (64 * k)).take 64) _ _ _ _ (absorbs_ok startV_ok _ _) rfl (by omega) _ _ (hS.hand1 (i := 0) rfl) hg (hjr.preB (by omega))) (fun v12 w hR a hF => ?_))
  obtain ⟨rfl, hc⟩ := hR
  replace hS := hS.callM (i := 0) (L' := []) rfl hc
  refine hK12 _ _ ?_
  refine hK11 _ _ ?_
  refine c_reg ?_
  refine n_q hF hS (q_move rfl) rfl (fun a hF => ?_)
  refine n_q hF hS (q_sliceF (l := 64) Tryd.underlying46 ty5 rfl rfl (by omega)) rfl (fun a hF => ?_)
  refine n_q hF hS (q_assign rfl) rfl (fun a hF => ?_)
  exact ⟨(k + 1, cutA ad (c - 64 * k) 64 1), _, (by show bs.length - 64 * (k + 1) < bs.length - 64 * k; omega), hl0, hF.back ⟨by show some (Value.slice _ _ _) = some (Value.slice _ _ _); rw [show bs.length - 64 * (k + 1) = bs.length - 64 * k - 64 by omega, show c - 64 * (k + 1) = c - 64 * k - 64 by omega], trivial⟩ rfl (by repeat first | exact Ext.refl _ _ | refine Ext.rem' rfl ?_ | refine Ext.push rfl ?_), hS.lose (.refl _), ⟨by show 64 * (k + 1) ≤ bs.length; omega, by have := hjr.fromB (c := c - 64 * k) (l := 64) (by omega) (by omega); rw [List.drop_drop] at this; rw [show bs.length - 64 * (k + 1) = bs.length - 64 * k - 64 by omega, show 64 * (k + 1) = 64 * k + 64 by omega]; exact this⟩⟩
  refine c_false hF rfl ?_
  refine c_exit ?_
  refine hK8 _ _ ?_
  refine c_seq (fun K13 hK13 => ?_)
  refine c_reg ?_
  obtain ⟨r, hrd⟩ : ∃ r, r = bs.drop (64 * k) := ⟨_, rfl⟩
  have hr64 : r.length = bs.length - 64 * k := by rw [hrd, List.length_drop]
  have hrl : r.length < 64 := by omega
  have hkk : bs.length / 64 = k := by omega
  have hrk : r = bs.drop (64 * (bs.length / 64)) := by rw [hkk]; exact hrd
  refine n_l rfl (fun K14 hK14 => l_makeO (l := 64) (c := 128) Tryd.underlying46 ty5 zr5 bt5 hF hS rfl rfl (by decide) (by decide) (by decide) (by decide) rfl rfl rfl (fun a w b3 hF hS => hK14 _ _ ?_))
  refine n_q hF hS (q_assign rfl) rfl (fun a hF => ?_)
  refine hK13 _ _ ?_
  refine c_seq (fun K15 hK15 => ?_)
  refine c_reg ?_
  rw [bc_zeros] at hS
  refine n_q hF hS (q_move rfl) rfl (fun a hF => ?_)
  refine n_q hF hS (q_move rfl) rfl (fun a hF => ?_)
  refine n_l rfl (fun K16 hK16 => l_copyG (k := r.length) (news := bc r) Tryd.underlying46 ty5 hF hS rfl rfl (i := 0) rfl (by omega) (by rw [bc_length, Nat.mul_one]) (by rw [bc_length, List.length_replicate]; omega) (bc_all1 _) (fun h0 => by obtain ⟨b9, o9, e9, h9⟩ := hjr.at_ (by omega); exact ⟨b9, o9, e9, fun j v hv => hS.hcell (h9 j v (by rw [← hrd]; exact hv))⟩) rfl (fun a w hF hS => hK16 _ _ ?_))
  refine hK15 _ _ ?_
  refine c_seq (fun K17 hK17 => ?_)
  refine c_reg ?_
  try dsimp only [List.set] at hS
  rw [spl_bc] at hS
  refine n_q hF hS (q_move rfl) rfl (fun a hF => ?_)
  refine n_q hF hS (q_move rfl) rfl (fun a hF => ?_)
  refine n_q hF hS (q_len Tryd.underlying46 rfl rfl) rfl (fun a hF => ?_)
  refine n_q hF hS (q_indexAddrSO (j := r.length) Tryd.underlying46 ty5 rfl rfl (by omega) (by omega)) rfl (fun a hF => ?_)
  refine n_l rfl (fun K18 hK18 => l_store (vs := [_]) ty5 hF hS rfl rfl (i := 0) rfl rfl rfl (by rw [Nat.ble_eq, bc_length, splU_length (by simp; omega), List.length_replicate]; omega) rfl (fun a w hF hS => hK18 _ _ ?_))
  refine hK17 _ _ ?_
  refine c_seq (fun K19 hK19 => ?_)
  refine c_seq (fun K20 hK20 => ?_)
  refine c_reg ?_
  try dsimp only [List.set] at hS
  rw [one80, spl_bc] at hS
  have hl3 : (bc (splU (splU (List.replicate 128 0) 0 r) r.length [0x80])).length = 128 := by rw [bc_length, splU_length (by rw [splU_length (by simp; omega)]; simp; omega), splU_length (by simp; omega), List.length_replicate]
  refine n_q hF hS (q_move rfl) rfl (fun a hF => ?_)
  refine n_q hF hS (q_len Tryd.underlying46 rfl rfl) rfl (fun a hF => ?_)
  refine n_q hF hS (q_gtr rfl rfl) rfl (fun a hF => ?_)
  refine hK20 _ _ ?_
  refine spd hF (s := 31) rfl (fun hc31 hF => ?_) (fun hc31 hF => ?_)
  refine c_true hF rfl ?_
  refine c_reg ?_
  refine n_q hF hS (q_move rfl) rfl (fun a hF => ?_)
  refine n_q hF hS (q_sliceP (h := 128) Tryd.underlying46 ty5 rfl rfl (by decide)) rfl (fun a hF => ?_)
  refine n_q hF hS (q_assign rfl) rfl (fun a hF => ?_)
  refine hK19 _ _ ?_
  refine c_seq (fun K21 hK21 => ?_)
  refine c_reg ?_
  refine n_q hF hS (q_move rfl) rfl (fun a hF => ?_)
  refine n_q hF hS (q_move rfl) rfl (fun a hF => ?_)
  refine n_q hF hS (q_len Tryd.underlying46 rfl rfl) rfl (fun a hF => ?_)
  refine n_q hF hS (q_subI rfl rfl (by omega)) rfl (fun a hF => ?_)
  refine n_q hF hS (q_sliceF (l := 120) Tryd.underlying46 ty5 rfl rfl (by decide)) rfl (fun a hF => ?_)
  refine n_q hF hS (q_move rfl) rfl (fun a hF => ?_)
  refine n_q hF hS (q_len Tryd.underlying46 rfl rfl) rfl (fun a hF => ?_)
  refine n_q hF hS (q_cv64 Tryd.underlying3 Tryd.underlying160 rfl (by omega)) rfl (fun a hF => ?_)
  refine n_q hF hS (q_mul64n (b := 8) rfl rfl (by omega)) rfl (fun a hF => ?_)
  refine n_l rfl (fun K22 hK22 => l_call en100 hF rfl rfl (put_c b3 120 8 _ (bs.length * 8)  _ _ (by decide) (by rw [hl3]; decide) (by omega) _ _ (hS.hand1 (i := 0) rfl)) (fun v22 w hR a hF => ?_))
  obtain ⟨rfl, hc⟩ := hR
  replace hS := hS.callM (i := 0) (L' := []) rfl hc
  refine hK22 _ _ ?_
  refine hK21 _ _ ?_
  refine c_seq (fun K23 hK23 => ?_)
  refine c_block ?_
  rw [spl_bc] at hS
  have hm : 128 = if 55 < r.length then 128 else 64 := by rw [if_pos (by omega)]
  have hpl0 := padded_length hrk hm hrl
  have hfrd0 : RdS (frz H ⟨b3, bc (splU (splU (splU (List.replicate 128 0) 0 r) r.length [0x80]) (128 - 8) (beB 8 (bs.length * 8))), 5⟩) (some ⟨b3, 0, none⟩) 128 1 (bc (padded bs)) := frz_rd (by rw [← bc_take, pad_eq r _ 128 (beB_length _ _) (by omega) (by decide), ← padded_eq hrk hm]) hpl0
  obtain ⟨H3, hH3, hle3, hS3⟩ := hS.freeze' (i := 0) rfl
  replace hS := hS3
  replace hg := hg.mono hle3
  replace hr := hr.mono hle3
  rw [← hH3] at hfrd0
  obtain ⟨m, hmd, hm2⟩ : ∃ m, m = 128 ∧ (m = 64 ∨ m = 128) := ⟨_, rfl, by omega⟩
  have hpl : (padded bs).length = m := by rw [hmd]; exact hpl0
  have hfrd : RdS H3 (some ⟨b3, 0, none⟩) m 1 (bc (padded bs)) := by rw [hmd]; exact hfrd0
  replace hF := hF.setv (s := 6) (u := .slice (some ⟨b3, 0, none⟩) m 128) rfl (by rw [hmd])
  refine c_loopL hF [6, 44, 45, 46, 47, 48, 49, 50, 51, 52]
    (fun g : Nat × Option Addr => [(6, .slice g.2 (m - 64 * g.1) (128 - 64 * g.1))])
    (fun g => [⟨b2, wc (absorbs (absorbs startV bs k) (padded bs) g.1).l, 164⟩, ⟨b1, bc (List.replicate 32 0), 35⟩])
    (fun g H => 64 * g.1 ≤ m ∧ RdS H g.2 (m - 64 * g.1) 1 (bc ((padded bs).drop (64 * g.1))) ∧ Gl 0 1 H)
    (fun g => m - 64 * g.1) ((0, some ⟨b3, 0, none⟩)) ⟨rfl, trivial⟩ (hS) (⟨Nat.zero_le _, hfrd, hg⟩) ?_
  clear hF hS
  intro g a w H hle hF hS hJ
  replace hr := hr.mono hle
  replace hg := hg.mono hle
  have hl1 := Le.refl H
  obtain ⟨j, ad2⟩ := g
  obtain ⟨hj, hjr, hg⟩ := hJ
  try dsimp only at hF hS hj hjr
  refine c_seq (fun K24 hK24 => ?_)
  refine c_seq (fun K25 hK25 => ?_)
  refine c_reg ?_
  refine n_q hF hS (q_move rfl) rfl (fun a hF => ?_)
  refine n_q hF hS (q_len Tryd.underlying46 rfl rfl) rfl (fun a hF => ?_)
  refine n_q hF hS (q_gtr rfl rfl) rfl (fun a hF => ?_)
  refine hK25 _ _ ?_
  refine spd hF (s := 46) rfl (fun hc46 hF => ?_) (fun hc46 hF => ?_)
  refine c_true hF rfl ?_
  refine wp_skip ?_
  refine hK24 _ _ ?_
  refine c_seq (fun K26 hK26 => ?_)
  refine c_block ?_
  refine c_reg ?_
  refine n_q hF hS (q_move rfl) rfl (fun a hF => ?_)
  refine n_q hF hS (q_move rfl) rfl (fun a hF => ?_)
  refine n_q hF hS (q_sliceP (h := 64) Tryd.underlying46 ty5 rfl rfl (by omega)) rfl (fun a hF => ?_)
  refine n_l rfl (fun K27 hK27 => l_callv en99 hF rfl rfl rfl (absorb_c b2 (absorbs (absorbs startV bs k) (padded bs) j) (((padded bs).drop (64 * j)).take 64) _ _ _ _ (absorbs_ok (absorbs_ok startV_ok _ _) _ _) rfl (by omega) _ _ (hS.hand1 (i := 0) rfl) hg (hjr.preB (by omega))) (fun v27 w hR a hF => ?_))
  obtain ⟨rfl, hc⟩ := hR
  replace hS := hS.callM (i := 0) (L' := []) rfl hc
  refine hK27 _ _ ?_
  refine hK26 _ _ ?_
  refine c_reg ?_
  refine n_q hF hS (q_move rfl) rfl (fun a hF => ?_)
  refine n_q hF hS (q_sliceF (l := 64) Tryd.underlying46 ty5 rfl rfl (by omega)) rfl (fun a hF => ?_)
  refine n_q hF hS (q_assign rfl) rfl (fun a hF => ?_)
  exact ⟨(j + 1, cutA ad2 (128 - 64 * j) 64 1), _, (by show m - 64 * (j + 1) < m - 64 * j; omega), hl1, hF.back ⟨by show some (Value.slice _ _ _) = some (Value.slice _ _ _); rw [show m - 64 * (j + 1) = m - 64 * j - 64 by omega, show 128 - 64 * (j + 1) = 128 - 64 * j - 64 by omega], trivial⟩ rfl (by repeat first | exact Ext.refl _ _ | refine Ext.rem' rfl ?_ | refine Ext.push rfl ?_), hS.lose (.refl _), ⟨by show 64 * (j + 1) ≤ m; omega, by have := hjr.fromB (c := 128 - 64 * j) (l := 64) (by omega) (by omega); rw [List.drop_drop] at this; rw [show m - 64 * (j + 1) = m - 64 * j - 64 by omega, show 64 * (j + 1) = 64 * j + 64 by omega]; exact this, hg⟩⟩
  refine c_false hF rfl ?_
  refine c_exit ?_
  refine hK23 _ _ ?_
  refine c_seq (fun K28 hK28 => ?_)
  refine c_seq (fun K29 hK29 => ?_)
  refine c_reg ?_
  refine n_q hF hS (q_load0 ty164 rfl (i := 0) rfl rfl rfl) rfl (fun a hF => ?_)
  refine n_q hF hS (q_move rfl) rfl (fun a hF => ?_)
  refine hK29 _ _ ?_
  refine c_block ?_
  have hs : Lt32 (absorbs (absorbs startV bs k) (padded bs) j).l := absorbs_ok (absorbs_ok startV_ok _ _) _ _
  obtain ⟨s, hsd⟩ : ∃ s, s = absorbs (absorbs startV bs k) (padded bs) j := ⟨_, rfl⟩
  rw [← hsd] at hS hF hs
  refine c_loopL hF [7, 8, 54, 55, 56, 57, 58, 59, 60, 61, 62, 63, 64, 65, 66, 67]
    (fun i : Nat => [(54, .int .i64 (i : Int))])
    (fun i => [⟨b2, wc s.l, 164⟩, ⟨b1, bc (dK s.l i), 35⟩])
    (fun i _ => i ≤ 8)
    (fun i => 8 - i) (0) ⟨rfl, trivial⟩ ((by rw [dK_zero]; exact hS)) (Nat.zero_le _) ?_
  clear hF hS
  intro i a w H hle hF hS hJ
  replace hr := hr.mono hle
  replace hg := hg.mono hle
  have hl2 := Le.refl H
  try dsimp only at hF hJ hS
  refine c_seq (fun K30 hK30 => ?_)
  refine c_reg ?_
  refine n_q hF hS (q_lss rfl rfl) rfl (fun a hF => ?_)
  refine hK30 _ _ ?_
  refine c_seq (fun K31 hK31 => ?_)
  refine spd hF (s := 55) rfl (fun hc55 hF => ?_) (fun hc55 hF => ?_)
  refine c_true hF rfl ?_
  refine wp_skip ?_
  refine hK31 _ _ ?_
  refine c_seq (fun K32 hK32 => ?_)
  refine c_block ?_
  refine c_seq (fun K33 hK33 => ?_)
  refine c_reg ?_
  refine n_q hF hS (q_move rfl) rfl (fun a hF => ?_)
  refine n_q hF hS (q_indexAgg (i := i) (cs := wc s.l) Tryd.underlying164 ty162 rfl rfl (by omega) (by rw [Nat.mul_one]; exact wc_ld2 (by show i < 8; omega))) rfl (fun a hF => ?_)
  refine n_q hF hS (q_assign rfl) rfl (fun a hF => ?_)
  refine n_q hF hS (q_assign rfl) rfl (fun a hF => ?_)
  refine hK33 _ _ ?_
  refine c_reg ?_
  refine n_q hF hS (q_move rfl) rfl (fun a hF => ?_)
  refine n_q hF hS (q_mulI rfl rfl (by omega)) rfl (fun a hF => ?_)
  refine n_q hF hS (q_move rfl) rfl (fun a hF => ?_)
  refine n_q hF hS (q_mulI rfl rfl (by omega)) rfl (fun a hF => ?_)
  refine n_q hF hS (q_addI rfl rfl (by omega)) rfl (fun a hF => ?_)
  refine n_q hF hS (q_sliceA (n := 32) (l := 4 * i) (h := 4 * i + 4) Tryd.underlying35 ty5 rfl ⟨_, rfl, by omega⟩ ⟨_, rfl, by omega⟩ (by omega)) rfl (fun a hF => ?_)
  refine n_q hF hS (q_move rfl) rfl (fun a hF => ?_)
  refine n_q hF hS (q_cv64 Tryd.underlying162 Tryd.underlying160 rfl (gt_lt_u64 hs i)) rfl (fun a hF => ?_)
  refine n_l rfl (fun K34 hK34 => l_call en100 hF rfl rfl (put_c b1 (0 + 4 * i * 1) (4 * i + 4 - 4 * i) _ (gt s.l i) _ _ (by omega) (by rw [bc_length, dK_length _ _ rfl (by omega)]; omega) (gt_lt_u64 hs i) _ _ (hS.hand1 (i := 1) rfl)) (fun v34 w hR a hF => ?_))
  obtain ⟨rfl, hc⟩ := hR
  replace hS := hS.callM (i := 1) (L' := []) rfl hc
  try dsimp only [List.set] at hS
  rw [Nat.mul_one, Nat.zero_add, Nat.add_sub_cancel_left, spl_bc, dK_succ _ _ rfl (by omega)] at hS
  refine hK34 _ _ ?_
  refine hK32 _ _ ?_
  refine c_reg ?_
  refine n_q hF hS (q_addI rfl rfl (by omega)) rfl (fun a hF => ?_)
  refine n_q hF hS (q_move rfl) rfl (fun a hF => ?_)
  exact ⟨i + 1, _, (by show 8 - (i + 1) < 8 - i; omega), hl2, hF.back ⟨rfl, trivial⟩ rfl (by repeat first | exact Ext.refl _ _ | refine Ext.rem' rfl ?_ | refine Ext.push rfl ?_), hS.lose (.refl _), (by omega)⟩
  refine c_false hF rfl ?_
  refine c_exit ?_
  refine hK28 _ _ ?_
  refine c_seq (fun K35 hK35 => ?_)
  refine c_reg ?_
  have hi8 : i = 8 := by omega
  rw [hi8, dK_eight, hsd, sha_eq hpl (by omega) (by omega)] at hS
  rw [← dc_sha] at hS
  refine n_q hF hS (q_load0 ty35 rfl (i := 1) rfl (by simp [dc_length, List.length_replicate, List.length_cons, List.length_nil, List.length_append]) rfl) rfl (fun a hF => ?_)
  refine n_l rfl (fun K36 hK36 => l_store0A ty35 hF hS rfl rfl (i := 1) rfl (by simp [dc_length, List.length_replicate, List.length_cons, List.length_nil, List.length_append]) (by simp [dc_length, List.length_replicate, List.length_cons, List.length_nil, List.length_append]) (by first | exact dc_all1 _ | rfl | simp [all1]) (fun a w hF hS => hK36 _ _ ?_))
  refine hK35 _ _ ?_
  refine c_ret ?_
  repeat (first | refine ret_then ?_ | refine ret_blk ?_)
  refine c_ret' (P := Tryd.prog) (fn := Tryd.f65) rfl hF hS (.cell0 rfl ty35 (i := 1) rfl (by simp [dc_length, List.length_replicate, List.length_cons, List.length_nil, List.length_append]) rfl .nil) ⟨_, rfl, ?_⟩
  exact ⟨rfl, hS.same⟩
  refine c_false hF rfl ?_
  refine wp_skip ?_
  refine hK19 _ _ ?_
  refine c_seq (fun K37 hK37 => ?_)
  refine c_reg ?_
  refine n_q hF hS (q_move rfl) rfl (fun a hF => ?_)
  refine n_q hF hS (q_move rfl) rfl (fun a hF => ?_)
  refine n_q hF hS (q_len Tryd.underlying46 rfl rfl) rfl (fun a hF => ?_)
  refine n_q hF hS (q_subI rfl rfl (by omega)) rfl (fun a hF => ?_)
  refine n_q hF hS (q_sliceF (l := 56) Tryd.underlying46 ty5 rfl rfl (by decide)) rfl (fun a hF => ?_)
  refine n_q hF hS (q_move rfl) rfl (fun a hF => ?_)
  refine n_q hF hS (q_len Tryd.underlying46 rfl rfl) rfl (fun a hF => ?_)
  refine n_q hF hS (q_cv64 Tryd.underlying3 Tryd.underlying160 rfl (by omega)) rfl (fun a hF => ?_)
  refine n_q hF hS (q_mul64n (b := 8) rfl rfl (by omega)) rfl (fun a hF => ?_)
  refine n_l rfl (fun K38 hK38 => l_call en100 hF rfl rfl (put_c b3 56 8 _ (bs.length * 8)  _ _ (by decide) (by rw [hl3]; decide) (by omega) _ _ (hS.hand1 (i := 0) rfl)) (fun v38 w hR a hF => ?_))
  obtain ⟨rfl, hc⟩ := hR
  replace hS := hS.callM (i := 0) (L' := []) rfl hc
  refine hK38 _ _ ?_
  refine hK37 _ _ ?_
  refine c_seq (fun K39 hK39 => ?_)
  refine c_block ?_
  rw [spl_bc] at hS
  have hm : 64 = if 55 < r.length then 128 else 64 := by rw [if_neg (by omega)]
  have hpl0 := padded_length hrk hm hrl
  have hfrd0 : RdS (frz H ⟨b3, bc (splU (splU (splU (List.replicate 128 0) 0 r) r.length [0x80]) (64 - 8) (beB 8 (bs.length * 8))), 5⟩) (some ⟨b3, 0, none⟩) 64 1 (bc (padded bs)) := frz_rd (by rw [← bc_take, pad_eq r _ 64 (beB_length _ _) (by omega) (by decide), ← padded_eq hrk hm]) hpl0
  obtain ⟨H3, hH3, hle3, hS3⟩ := hS.freeze' (i := 0) rfl
  replace hS := hS3
  replace hg := hg.mono hle3
  replace hr := hr.mono hle3
  rw [← hH3] at hfrd0
  obtain ⟨m, hmd, hm2⟩ : ∃ m, m = 64 ∧ (m = 64 ∨ m = 128) := ⟨_, rfl, by omega⟩
  have hpl : (padded bs).length = m := by rw [hmd]; exact hpl0
  have hfrd : RdS H3 (some ⟨b3, 0, none⟩) m 1 (bc (padded bs)) := by rw [hmd]; exact hfrd0
  replace hF := hF.setv (s := 6) (u := .slice (some ⟨b3, 0, none⟩) m 128) rfl (by rw [hmd])
  refine c_loopL hF [6, 44, 45, 46, 47, 48, 49, 50, 51, 52]
    (fun g : Nat × Option Addr => [(6, .slice g.2 (m - 64 * g.1) (128 - 64 * g.1))])
    (fun g => [⟨b2, wc (absorbs (absorbs startV bs k) (padded bs) g.1).l, 164⟩, ⟨b1, bc (List.replicate 32 0), 35⟩])
    (fun g H => 64 * g.1 ≤ m ∧ RdS H g.2 (m - 64 * g.1) 1 (bc ((padded bs).drop (64 * g.1))) ∧ Gl 0 1 H)
    (fun g => m - 64 * g.1) ((0, some ⟨b3, 0, none⟩)) ⟨rfl, trivial⟩ (hS) (⟨Nat.zero_le _, hfrd, hg⟩) ?_
  clear hF hS
  intro g a w H hle hF hS hJ
  replace hr := hr.mono hle
  replace hg := hg.mono hle
  have hl3 := Le.refl H
  obtain ⟨j, ad2⟩ := g
  obtain ⟨hj, hjr, hg⟩ := hJ
  try dsimp only at hF hS hj hjr
  refine c_seq (fun K40 hK40 => ?_)
  refine c_seq (fun K41 hK41 => ?_)
  refine c_reg ?_
  refine n_q hF hS (q_move rfl) rfl (fun a hF => ?_)
  refine n_q hF hS (q_len Tryd.underlying46 rfl rfl) rfl (fun a hF => ?_)
  refine n_q hF hS (q_gtr rfl rfl) rfl (fun a hF => ?_)
  refine hK41 _ _ ?_
  refine spd hF (s := 46) rfl (fun hc46 hF => ?_) (fun hc46 hF => ?_)
  refine c_true hF rfl ?_
  refine wp_skip ?_
  refine hK40 _ _ ?_
  refine c_seq (fun K42 hK42 => ?_)
  refine c_block ?_
  refine c_reg ?_
  refine n_q hF hS (q_move rfl) rfl (fun a hF => ?_)
  refine n_q hF hS (q_move rfl) rfl (fun a hF => ?_)
  refine n_q hF hS (q_sliceP (h := 64) Tryd.underlying46 ty5 rfl rfl (by omega)) rfl (fun a hF => ?_)
  refine n_l rfl (fun K43 hK43 => l_callv en99 hF rfl rfl rfl (absorb_c b2 (absorbs (absorbs startV bs k) (padded bs) j) (((padded bs).drop (64 * j)).take 64) _ _ _ _ (absorbs_ok (absorbs_ok startV_ok _ _) _ _) rfl (by omega) _ _ (hS.hand1 (i := 0) rfl) hg (hjr.preB (by omega))) (fun v43 w hR a hF => ?_))
  obtain ⟨rfl, hc⟩ := hR
  replace hS := hS.callM (i := 0) (L' := []) rfl hc
  refine hK43 _ _ ?_
  refine hK42 _ _ ?_
  refine c_reg ?_
  refine n_q hF hS (q_move rfl) rfl (fun a hF => ?_)
  refine n_q hF hS (q_sliceF (l := 64) Tryd.underlying46 ty5 rfl rfl (by omega)) rfl (fun a hF => ?_)
  refine n_q hF hS (q_assign rfl) rfl (fun a hF => ?_)
  exact ⟨(j + 1, cutA ad2 (128 - 64 * j) 64 1), _, (by show m - 64 * (j + 1) < m - 64 * j; omega), hl3, hF.back ⟨by show some (Value.slice _ _ _) = some (Value.slice _ _ _); rw [show m - 64 * (j + 1) = m - 64 * j - 64 by omega, show 128 - 64 * (j + 1) = 128 - 64 * j - 64 by omega], trivial⟩ rfl (by repeat first | exact Ext.refl _ _ | refine Ext.rem' rfl ?_ | refine Ext.push rfl ?_), hS.lose (.refl _), ⟨by show 64 * (j + 1) ≤ m; omega, by have := hjr.fromB (c := 128 - 64 * j) (l := 64) (by omega) (by omega); rw [List.drop_drop] at this; rw [show m - 64 * (j + 1) = m - 64 * j - 64 by omega, show 64 * (j + 1) = 64 * j + 64 by omega]; exact this, hg⟩⟩
  refine c_false hF rfl ?_
  refine c_exit ?_
  refine hK39 _ _ ?_
  refine c_seq (fun K44 hK44 => ?_)
  refine c_seq (fun K45 hK45 => ?_)
  refine c_reg ?_
  refine n_q hF hS (q_load0 ty164 rfl (i := 0) rfl rfl rfl) rfl (fun a hF => ?_)
  refine n_q hF hS (q_move rfl) rfl (fun a hF => ?_)
  refine hK45 _ _ ?_
  refine c_block ?_
  have hs : Lt32 (absorbs (absorbs startV bs k) (padded bs) j).l := absorbs_ok (absorbs_ok startV_ok _ _) _ _
  obtain ⟨s, hsd⟩ : ∃ s, s = absorbs (absorbs startV bs k) (padded bs) j := ⟨_, rfl⟩
  rw [← hsd] at hS hF hs
  refine c_loopL hF [7, 8, 54, 55, 56, 57, 58, 59, 60, 61, 62, 63, 64, 65, 66, 67]
    (fun i : Nat => [(54, .int .i64 (i : Int))])
    (fun i => [⟨b2, wc s.l, 164⟩, ⟨b1, bc (dK s.l i), 35⟩])
    (fun i _ => i ≤ 8)
    (fun i => 8 - i) (0) ⟨rfl, trivial⟩ ((by rw [dK_zero]; exact hS)) (Nat.zero_le _) ?_
  clear hF hS
  intro i a w H hle hF hS hJ
  replace hr := hr.mono hle
  replace hg := hg.mono hle
  have hl4 := Le.refl H
  try dsimp only at hF hJ hS
  refine c_seq (fun K46 hK46 => ?_)
  refine c_reg ?_
  refine n_q hF hS (q_lss rfl rfl) rfl (fun a hF => ?_)
  refine hK46 _ _ ?_
  refine c_seq (fun K47 hK47 => ?_)
  refine spd hF (s := 55) rfl (fun hc55 hF => ?_) (fun hc55 hF => ?_)
  refine c_true hF rfl ?_
  refine wp_skip ?_
  refine hK47 _ _ ?_
  refine c_seq (fun K48 hK48 => ?_)
  refine c_block ?_
  refine c_seq (fun K49 hK49 => ?_)
  refine c_reg ?_
  refine n_q hF hS (q_move rfl) rfl (fun a hF => ?_)
  refine n_q hF hS (q_indexAgg (i := i) (cs := wc s.l) Tryd.underlying164 ty162 rfl rfl (by omega) (by rw [Nat.mul_one]; exact wc_ld2 (by show i < 8; omega))) rfl (fun a hF => ?_)
  refine n_q hF hS (q_assign rfl) rfl (fun a hF => ?_)
  refine n_q hF hS (q_assign rfl) rfl (fun a hF => ?_)
  refine hK49 _ _ ?_
  refine c_reg ?_
  refine n_q hF hS (q_move rfl) rfl (fun a hF => ?_)
  refine n_q hF hS (q_mulI rfl rfl (by omega)) rfl (fun a hF => ?_)
  refine n_q hF hS (q_move rfl) rfl (fun a hF => ?_)
  refine n_q hF hS (q_mulI rfl rfl (by omega)) rfl (fun a hF => ?_)
  refine n_q hF hS (q_addI rfl rfl (by omega)) rfl (fun a hF => ?_)
  refine n_q hF hS (q_sliceA (n := 32) (l := 4 * i) (h := 4 * i + 4) Tryd.underlying35 ty5 rfl ⟨_, rfl, by omega⟩ ⟨_, rfl, by omega⟩ (by omega)) rfl (fun a hF => ?_)
  refine n_q hF hS (q_move rfl) rfl (fun a hF => ?_)
  refine n_q hF hS (q_cv64 Tryd.underlying162 Tryd.underlying160 rfl (gt_lt_u64 hs i)) rfl (fun a hF => ?_)
  refine n_l rfl (fun K50 hK50 => l_call en100 hF rfl rfl (put_c b1 (0 + 4 * i * 1) (4 * i + 4 - 4 * i) _ (gt s.l i) _ _ (by omega) (by rw [bc_length, dK_length _ _ rfl (by omega)]; omega) (gt_lt_u64 hs i) _ _ (hS.hand1 (i := 1) rfl)) (fun v50 w hR a hF => ?_))
  obtain ⟨rfl, hc⟩ := hR
  replace hS := hS.callM (i := 1) (L' := []) rfl hc
  try dsimp only [List.set] at hS
  rw [Nat.mul_one, Nat.zero_add, Nat.add_sub_cancel_left, spl_bc, dK_succ _ _ rfl (by omega)] at hS
  refine hK50 _ _ ?_
  refine hK48 _ _ ?_
  refine c_reg ?_
  refine n_q hF hS (q_addI rfl rfl (by omega)) rfl (fun a hF => ?_)
  refine n_q hF hS (q_move rfl) rfl (fun a hF => ?_)
  exact ⟨i + 1, _, (by show 8 - (i + 1) < 8 - i; omega), hl4, hF.back ⟨rfl, trivial⟩ rfl (by repeat first | exact Ext.refl _ _ | refine Ext.rem' rfl ?_ | refine Ext.push rfl ?_), hS.lose (.refl _), (by omega)⟩
  refine c_false hF rfl ?_
  refine c_exit ?_
  refine hK44 _ _ ?_
  refine c_seq (fun K51 hK51 => ?_)
  refine c_reg ?_
  have hi8 : i = 8 := by omega
  rw [hi8, dK_eight, hsd, sha_eq hpl (by omega) (by omega)] at hS
  rw [← dc_sha] at hS
  refine n_q hF hS (q_load0 ty35 rfl (i := 1) rfl (by simp [dc_length, List.length_replicate, List.length_cons, List.length_nil, List.length_append]) rfl) rfl (fun a hF => ?_)
  refine n_l rfl (fun K52 hK52 => l_store0A ty35 hF hS rfl rfl (i := 1) rfl (by simp [dc_length, List.length_replicate, List.length_cons, List.length_nil, List.length_append]) (by simp [dc_length, List.length_replicate, List.length_cons, List.length_nil, List.length_append]) (by first | exact dc_all1 _ | rfl | simp [all1]) (fun a w hF hS => hK52 _ _ ?_))
  refine hK51 _ _ ?_
  refine c_ret ?_
  repeat (first | refine ret_then ?_ | refine ret_blk ?_)
  refine c_ret' (P := Tryd.prog) (fn := Tryd.f65) rfl hF hS (.cell0 rfl ty35 (i := 1) rfl (by simp [dc_length, List.length_replicate, List.length_cons, List.length_nil, List.length_append]) rfl .nil) ⟨_, rfl, ?_⟩
  exact ⟨rfl, hS.same⟩
end Go.Proofs.YtneokajhmonpaaaDoor

namespace Go.Proofs.YtneokajhmonpaaaDoor
open Go Go.RowKit Go.W
set_option maxRecDepth 10000
open Fx

theorem Tagged_c (s : ByteArray) (bs : List UInt8) (a0 : Option Addr) (n c : Nat) (hs : s.data.toList.length ≤ 1000) (hn : n ≤ 1099511000000) (hc0 : n ≤ c) (w : World) (H : Froz) (hz : Fz H w) (hg : Gl 0 1 H) (hr : RdS H a0 n 1 (bc bs)) :
    CallsR Tryd.prog 26 [.string s, .slice a0 n c] w fun v w' => v = .agg (dc (tagged s.data.toList bs)).toArray ∧ St ⟨w, H, []⟩ H [] w' := by
  refine calls_start Tryd.func26 rfl Tryd.ntmps26 rfl (fun a hF => ?_)
  have hS := St.start w H hz
  refine c_seq (fun K1 hK1 => ?_)
  refine c_reg ?_
  refine n_l rfl (fun K2 hK2 => l_alloc hF hS zr35 rfl (fun a w b1 hF hS => hK2 _ _ ?_))
  refine hK1 _ _ ?_
  refine c_seq (fun K3 hK3 => ?_)
  refine c_reg ?_
  refine n_q hF hS (q_move rfl) rfl (fun a hF => ?_)
  refine n_l rfl (fun K4 hK4 => l_convSB Tryd.underlying9 Tryd.underlying46 Tryd.underlying5 hF hS rfl rfl (fun a w H_r1_1 c_r1_1 ad_r1_1 hle_r1_1 hc_r1_1 r1_1 hF hS => ?_))
  replace hr := hr.mono hle_r1_1
  replace hg := hg.mono hle_r1_1
  refine hK4 _ _ ?_
  refine n_l rfl (fun K5 hK5 => l_call en65 hF rfl rfl (Sum_c _ _ _ _ (by omega) hc_r1_1 _ _ hS.fz hg r1_1) (fun v5 w hR a hF => ?_))
  obtain ⟨rfl, hc⟩ := hR
  replace hS := hS.call0 hc
  refine hK5 _ _ ?_
  refine n_l rfl (fun K6 hK6 => l_alloc hF hS zr35 rfl (fun a w b2 hF hS => hK6 _ _ ?_))
  refine n_l rfl (fun K7 hK7 => l_store0A ty35 hF hS rfl rfl (i := 0) rfl (by simp [dc_length, List.length_replicate, List.length_cons, List.length_nil, List.length_append]) (by simp [dc_length, List.length_replicate, List.length_cons, List.length_nil, List.length_append]) (by first | exact dc_all1 _ | rfl | simp [all1]) (fun a w hF hS => hK7 _ _ ?_))
  refine hK3 _ _ ?_
  refine c_seq (fun K8 hK8 => ?_)
  refine c_reg ?_
  obtain ⟨H_hfd, hH_hfd, hle_hfd, hS_hfd⟩ := hS.freeze' (i := 0) rfl
  replace hS := hS_hfd
  replace hr := hr.mono hle_hfd
  replace hg := hg.mono hle_hfd
  replace r1_1 := r1_1.mono hle_hfd
  have hfd : RdS H_hfd (some ⟨b2, 0, none⟩) 32 1 (bc (shaD s.data.toList).l) := by rw [hH_hfd]; exact frz_dc _
  refine n_q hF hS (q_sliceAll Tryd.underlying35 ty5 rfl (by decide)) rfl (fun a hF => ?_)
  refine n_q hF hS (q_move rfl) rfl (fun a hF => ?_)
  refine n_l rfl (fun K9 hK9 => l_buildF (els := [[_], [_]]) Tryd.underlying152 ty46 zr46 hF hS rfl rfl rfl (by simp [Value.cells, dc_length, List.length_replicate, List.length_cons, List.length_nil, List.length_append]) rfl rfl rfl (fun a w b3 hF hle hS r2_2 => ?_))
  replace hr := hr.mono hle
  replace hg := hg.mono hle
  replace r1_1 := r1_1.mono hle
  replace hfd := hfd.mono hle
  refine hK9 _ _ ?_
  refine n_l rfl (fun K10 hK10 => l_call en55 hF rfl rfl (Concat_c [⟨some ⟨b2, 0, none⟩, 32, 32, (shaD s.data.toList).l⟩, ⟨a0, n, c, bs⟩] _ _ (by simp) (by simp <;> omega) _ _ hS.fz r2_2 (fun s hs => by simp only [List.mem_cons, List.not_mem_nil, or_false] at hs; rcases hs with rfl | rfl; exact hfd; exact hr)) (fun v10 w hR a hF => ?_))
  obtain ⟨ad, cp, Lx, rfl, ho, hc⟩ := hR
  obtain ⟨H4, hle4, hS4, hr4⟩ := ho.freeze (hS.call hc)
  replace hS := hS4
  have hcp := ho.le
  replace hg := hg.mono hle4
  replace hr := hr.mono hle4
  refine hK10 _ _ ?_
  refine n_l rfl (fun K11 hK11 => l_call en65 hF rfl rfl (Sum_c ((shaD s.data.toList).l ++ bs) _ _ _ (by simp; omega) hcp _ _ hS.fz hg (by simpa using hr4)) (fun v11 w hR a hF => ?_))
  obtain ⟨rfl, hc⟩ := hR
  replace hS := hS.call0 hc
  refine hK11 _ _ ?_
  refine n_l rfl (fun K12 hK12 => l_store0A ty35 hF hS rfl rfl (i := 0) rfl (by simp [dc_length, List.length_replicate, List.length_cons, List.length_nil, List.length_append]) (by simp [dc_length, List.length_replicate, List.length_cons, List.length_nil, List.length_append]) (by first | exact dc_all1 _ | rfl | simp [all1]) (fun a w hF hS => hK12 _ _ ?_))
  refine hK8 _ _ ?_
  refine c_ret ?_
  repeat (first | refine ret_then ?_ | refine ret_blk ?_)
  refine c_ret' (P := Tryd.prog) (fn := Tryd.f26) rfl hF hS (.cell0 rfl ty35 (i := 0) rfl (by simp [dc_length, List.length_replicate, List.length_cons, List.length_nil, List.length_append]) rfl .nil) ⟨_, rfl, ?_⟩
  exact ⟨rfl, hS.same⟩

theorem DChain_c (e d : Dg) (w : World) (H : Froz) (hz : Fz H w) (hg : Gl 0 1 H) :
    CallsR Tryd.prog 19 [.agg (dc e).toArray, .agg (dc d).toArray] w fun v w' => v = .agg (dc (tagged [99, 104, 97, 105, 110] (e.l ++ d.l))).toArray ∧ St ⟨w, H, []⟩ H [] w' := by
  refine calls_start Tryd.func19 rfl Tryd.ntmps19 rfl (fun a hF => ?_)
  have hS := St.start w H hz
  refine c_seq (fun K1 hK1 => ?_)
  refine c_reg ?_
  refine n_l rfl (fun K2 hK2 => l_boxA hF hS rfl rfl (fun a w b1 hF hS => hK2 _ _ ?_))
  refine n_l rfl (fun K3 hK3 => l_boxA hF hS rfl rfl (fun a w b2 hF hS => hK3 _ _ ?_))
  refine n_l rfl (fun K4 hK4 => l_alloc hF hS zr35 rfl (fun a w b3 hF hS => hK4 _ _ ?_))
  refine hK1 _ _ ?_
  refine c_seq (fun K5 hK5 => ?_)
  obtain ⟨H_hfe, hH_hfe, hle_hfe, hS_hfe⟩ := hS.freeze' (i := 2) rfl
  replace hS := hS_hfe
  replace hg := hg.mono hle_hfe
  have hfe : RdS H_hfe (some ⟨b1, 0, none⟩) 32 1 (bc e.l) := by rw [hH_hfe]; exact frz_dc _
  obtain ⟨H_hfd, hH_hfd, hle_hfd, hS_hfd⟩ := hS.freeze' (i := 1) rfl
  replace hS := hS_hfd
  replace hg := hg.mono hle_hfd
  replace hfe := hfe.mono hle_hfd
  have hfd : RdS H_hfd (some ⟨b2, 0, none⟩) 32 1 (bc d.l) := by rw [hH_hfd]; exact frz_dc _
  refine r_start (fun L => L) [5] mo hS (fun w hS => ?_)
  refine r_q (i := 0) rfl rfl hF hS (q_sliceAll Tryd.underlying35 ty5 rfl (by decide)) rfl (fun a hF => ?_)
  refine r_q (i := 1) rfl rfl hF hS (q_sliceAll Tryd.underlying35 ty5 rfl (by decide)) rfl (fun a hF => ?_)
  refine r_one (i := 2) (by kernel_rfl) ?_
  have hsub := hS.sub
  refine r_li rfl rfl (fun K6 hK6 => l_buildF (els := [[_], [_]]) Tryd.underlying152 ty46 zr46 hF hS rfl rfl rfl (by simp [Value.cells, dc_length, List.length_replicate, List.length_cons, List.length_nil, List.length_append]) rfl rfl rfl (fun a w b4 hF hle hS r1_2 => ?_))
  replace hg := hg.mono hle
  replace hfe := hfe.mono hle
  replace hfd := hfd.mono hle
  refine hK6 _ _ _ hS (fun _ h => h.forget hsub hle) ?_
  refine r_one (i := 3) (by kernel_rfl) ?_
  have hsub := hS.sub
  refine r_li rfl rfl (fun K7 hK7 => l_call en55 hF rfl rfl (Concat_c [⟨some ⟨b1, 0, none⟩, 32, 32, e.l⟩, ⟨some ⟨b2, 0, none⟩, 32, 32, d.l⟩] _ _ (by simp) (by simp <;> omega) _ _ hS.fz r1_2 (fun s hs => by simp only [List.mem_cons, List.not_mem_nil, or_false] at hs; rcases hs with rfl | rfl; exact hfe; exact hfd)) (fun v7 w hR a hF => ?_))
  obtain ⟨ad, cp, Lx, rfl, ho, hc⟩ := hR
  obtain ⟨H4, hle4, hS4, hr4⟩ := ho.freeze (hS.call hc)
  replace hS := hS4
  have hcp := ho.le
  replace hg := hg.mono hle4
  refine hK7 _ _ _ hS (fun _ h => h.forget hsub hle4) ?_
  refine r_one (i := 4) (by kernel_rfl) ?_
  have hsub := hS.sub
  refine r_li rfl rfl (fun K8 hK8 => l_call en26 hF rfl rfl (Tagged_c _ (e.l ++ d.l) _ _ _ (by decide) (by simp) hcp _ _ hS.fz hg (by simpa using hr4)) (fun v8 w hR a hF => ?_))
  obtain ⟨rfl, hc⟩ := hR
  replace hS := hS.call0 hc
  refine hK8 _ _ _ hS (fun _ h => h) ?_
  refine r_one (i := 5) (by kernel_rfl) ?_
  refine r_lL rfl rfl rfl (fun K9 hK9 => l_store0A ty35 hF hS rfl rfl (i := 0) rfl (by simp [dc_length, List.length_replicate, List.length_cons, List.length_nil, List.length_append]) (by simp [dc_length, List.length_replicate, List.length_cons, List.length_nil, List.length_append]) (by first | exact dc_all1 _ | rfl | simp [all1]) (fun a w hF hS => hK9 _ _ ?_))
  refine r_done (by kernel_rfl) ?_
  refine hK5 _ _ ?_
  refine c_ret ?_
  repeat (first | refine ret_then ?_ | refine ret_blk ?_)
  refine c_ret' (P := Tryd.prog) (fn := Tryd.f19) rfl hF hS (.cell0 rfl ty35 (i := 0) rfl (by simp [dc_length, List.length_replicate, List.length_cons, List.length_nil, List.length_append]) rfl .nil) ⟨_, rfl, ?_⟩
  exact ⟨rfl, hS.same⟩
end Go.Proofs.YtneokajhmonpaaaDoor

namespace Go.Proofs.YtneokajhmonpaaaDoor
open Go Go.RowKit Go.W
set_option maxRecDepth 10000
open Fx

set_option maxHeartbeats 1000000 in
theorem Div64_c (hi lo y : Nat) (hlo : lo < 18446744073709551616) (hy : y < 18446744073709551616) (hh : hi < y) (w : World) (H : Froz) (hz : Fz H w) : CallsR Tryd.prog 124 [.int .u64 (hi : Int), .int .u64 (lo : Int), .int .u64 (y : Int)] w fun v w' =>
    v = .tuple #[.int .u64 (((hi * 18446744073709551616 + lo) / y : Nat) : Int), .int .u64 (((hi * 18446744073709551616 + lo) % y : Nat) : Int)] ∧ St ⟨w, H, []⟩ H [] w' := by
  refine calls_start Tryd.func124 rfl Tryd.ntmps124 rfl (fun a hF => ?_)
  have hS := St.start w H hz
  have hS0 := hS
  have hb := bl_le (x := y) (n := 64) hy
  have hb1 := bl_pos (x := y) (by omega)
  have hbp : 1 ≤ bl y := by
    rcases Nat.eq_zero_or_pos (bl y) with h | h
    · rw [h] at hb1; omega
    · exact h
  obtain ⟨s, hsd⟩ : ∃ s, s = 64 - bl y := ⟨_, rfl⟩
  have hs : s ≤ 63 := by omega
  obtain ⟨Y, hYd⟩ : ∃ Y, Y = y * 2 ^ s := ⟨_, rfl⟩
  have hY : Y < 18446744073709551616 := by
    rw [hYd]
    have h1 : y * 2 ^ s < 2 ^ bl y * 2 ^ s := Nat.mul_lt_mul_of_pos_right hb1.2 (Nat.two_pow_pos _)
    rw [← Nat.pow_add, show bl y + s = 64 by omega] at h1
    exact h1
  have hYl : 9223372036854775808 ≤ Y := by
    rw [hYd]
    have h1 : 2 ^ (bl y - 1) * 2 ^ s ≤ y * 2 ^ s := Nat.mul_le_mul_right _ hb1.1
    rw [← Nat.pow_add, show bl y - 1 + s = 63 by omega] at h1
    exact h1
  obtain ⟨d1, d2, d3, d4⟩ := div_words hlo hs hh (hYd ▸ hY)
  have hsh := shift_div (n := hi * 18446744073709551616 + lo) (y := y) (s := s)
  rw [d4, ← hYd] at hsh
  obtain ⟨U, hU⟩ : ∃ U, U = hi * 2 ^ s + lo / 2 ^ (64 - s) := ⟨_, rfl⟩
  rw [← hU] at d2 d3 hsh
  rw [← hYd] at d3
  obtain ⟨V, hV⟩ : ∃ V, V = lo * 2 ^ s % 18446744073709551616 := ⟨_, rfl⟩
  rw [← hV] at hsh
  have hVlt : V < 18446744073709551616 := by rw [hV]; exact Nat.mod_lt _ (by decide)
  obtain ⟨Y1, hY1⟩ : ∃ Y1, Y1 = Y / 4294967296 := ⟨_, rfl⟩
  obtain ⟨Y0, hY0⟩ : ∃ Y0, Y0 = Y % 4294967296 := ⟨_, rfl⟩
  have hYY : Y = Y1 * 4294967296 + Y0 := by omega
  have hY1lt : Y1 < 4294967296 := by omega
  have hY1l : 2147483648 ≤ Y1 := by omega
  have hY0lt : Y0 < 4294967296 := by omega
  obtain ⟨V1, hV1⟩ : ∃ V1, V1 = V / 4294967296 := ⟨_, rfl⟩
  obtain ⟨V0, hV0⟩ : ∃ V0, V0 = V % 4294967296 := ⟨_, rfl⟩
  have hV1lt : V1 < 4294967296 := by omega
  have hV0lt : V0 < 4294967296 := by omega
  have hYp : 0 < Y := by omega
  have E1 := est_start' (K := 4294967296) (u := U) (u1 := V1) hYY hY0lt (by omega) (by decide) d3 hV1lt
  obtain ⟨R1, hR1⟩ : ∃ R1, R1 = (U * 4294967296 + V1) % Y := ⟨_, rfl⟩
  have hR1lt : R1 < Y := by rw [hR1]; exact Nat.mod_lt _ hYp
  have E2 := est_start' (K := 4294967296) (u := R1) (u1 := V0) hYY hY0lt (by omega) (by decide) hR1lt hV0lt
  have hU64 : U < 18446744073709551616 := by omega
  have hQ1 : (U * 4294967296 + V1) / Y < 4294967296 := by rw [Nat.div_lt_iff_lt_mul hYp]; have : (U + 1) * 4294967296 ≤ Y * 4294967296 := Nat.mul_le_mul_right _ d3; omega
  have hQ0 : (R1 * 4294967296 + V0) / Y < 4294967296 := by rw [Nat.div_lt_iff_lt_mul hYp]; have : (R1 + 1) * 4294967296 ≤ Y * 4294967296 := Nat.mul_le_mul_right _ hR1lt; omega
  have hR2lt : (R1 * 4294967296 + V0) % Y < Y := Nat.mod_lt _ hYp
  have T2 := two_digits (v := U * 4294967296 + V1) (K := 4294967296) (u0 := V0) hYp
  rw [← hR1, show (U * 4294967296 + V1) * 4294967296 + V0 = U * 18446744073709551616 + V by omega, hsh.1] at T2
  have T3 : (R1 * 4294967296 + V0) % Y / 2 ^ s = (hi * 18446744073709551616 + lo) % y := by rw [← T2.2]; exact hsh.2
  have hm1 : ∀ q : Nat, q < 4294967296 → q * Y0 < 18446744073709551616 := fun q hq => by
    have : q * Y0 ≤ 4294967295 * 4294967295 := Nat.mul_le_mul (by omega) (by omega)
    omega
  have hd1 : U / Y1 * Y1 ≤ U := Nat.div_mul_le_self _ _
  have hd2 : R1 / Y1 * Y1 ≤ R1 := Nat.div_mul_le_self _ _
  have hzero : hi = 0 → ((hi * 18446744073709551616 + lo) / y = lo / y ∧ (hi * 18446744073709551616 + lo) % y = lo % y) := fun h => by subst h; simp
  refine c_seq (fun K1 hK1 => ?_)
  refine c_reg ?_
  refine n_q hF hS (q_assign rfl) rfl (fun a hF => ?_)
  refine n_q hF hS (q_assign rfl) rfl (fun a hF => ?_)
  refine hK1 _ _ ?_
  refine c_seq (fun K2 hK2 => ?_)
  refine c_seq (fun K3 hK3 => ?_)
  refine c_reg ?_
  refine n_q hF hS (q_move rfl) rfl (fun a hF => ?_)
  refine n_q hF hS (q_eqI rfl rfl) rfl (fun a hF => ?_)
  refine hK3 _ _ ?_
  refine spF hF (s := 20) rfl (by omega) (fun hF => ?_)
  refine c_false hF rfl ?_
  refine wp_skip ?_
  refine hK2 _ _ ?_
  refine c_seq (fun K4 hK4 => ?_)
  refine c_seq (fun K5 hK5 => ?_)
  refine c_reg ?_
  refine n_q hF hS (q_move rfl) rfl (fun a hF => ?_)
  refine n_q hF hS (q_move rfl) rfl (fun a hF => ?_)
  refine n_q hF hS (q_leq rfl rfl) rfl (fun a hF => ?_)
  refine hK5 _ _ ?_
  refine spF hF (s := 24) rfl (by omega) (fun hF => ?_)
  refine c_false hF rfl ?_
  refine wp_skip ?_
  refine hK4 _ _ ?_
  refine c_seq (fun K6 hK6 => ?_)
  refine c_seq (fun K7 hK7 => ?_)
  refine c_reg ?_
  refine n_q hF hS (q_move rfl) rfl (fun a hF => ?_)
  refine n_q hF hS (q_eqI rfl rfl) rfl (fun a hF => ?_)
  refine hK7 _ _ ?_
  refine spd hF (s := 27) rfl (fun hc27 hF => ?_) (fun hc27 hF => ?_)
  refine c_true hF rfl ?_
  refine c_seq (fun K8 hK8 => ?_)
  refine r_start (fun L => L) [] mo hS (fun w hS => ?_)
  refine r_q (i := 0) rfl rfl hF hS (q_move rfl) rfl (fun a hF => ?_)
  refine r_q (i := 1) rfl rfl hF hS (q_move rfl) rfl (fun a hF => ?_)
  refine r_q (i := 2) rfl rfl hF hS (q_quo64 rfl rfl hlo (by omega)) rfl (fun a hF => ?_)
  refine r_q (i := 3) rfl rfl hF hS (q_move rfl) rfl (fun a hF => ?_)
  refine r_q (i := 4) rfl rfl hF hS (q_move rfl) rfl (fun a hF => ?_)
  refine r_q (i := 5) rfl rfl hF hS (q_rem64 rfl rfl (by omega)) rfl (fun a hF => ?_)
  refine r_q (i := 6) rfl rfl hF hS (q_assign rfl) rfl (fun a hF => ?_)
  refine r_q (i := 7) rfl rfl hF hS (q_assign rfl) rfl (fun a hF => ?_)
  refine r_done (by kernel_rfl) ?_
  refine hK8 _ _ ?_
  refine c_ret ?_
  repeat (first | refine ret_then ?_ | refine ret_blk ?_)
  refine c_ret' (P := Tryd.prog) (fn := Tryd.f124) rfl hF hS (.tmp rfl (.tmp rfl .nil)) ⟨_, rfl, ?_⟩
  obtain ⟨z1, z2⟩ := hzero (by omega)
  exact ⟨by rw [z1, z2]; rfl, hS.same⟩
  refine c_false hF rfl ?_
  refine wp_skip ?_
  refine hK6 _ _ ?_
  refine c_seq (fun K9 hK9 => ?_)
  refine c_reg ?_
  refine n_q hF hS (q_move rfl) rfl (fun a hF => ?_)
  refine n_l rfl (fun K10 hK10 => l_call en135 hF rfl rfl (LeadingZeros64_c _ (by omega) _ _ hS.fz) (fun v10 w hR a hF => ?_))
  obtain ⟨rfl, hc⟩ := hR
  replace hS := hS.call0 hc
  refine hK10 _ _ ?_
  refine n_q hF hS (q_cv (r := (s : Int)) Tryd.underlying3 Tryd.underlying178 rfl (by rw [show (64 : Int) - (bl y : Int) = ((s : Nat) : Int) by omega, wrap_u64, Nat.mod_eq_of_lt (by omega)])) rfl (fun a hF => ?_)
  refine n_q hF hS (q_assign rfl) rfl (fun a hF => ?_)
  refine hK9 _ _ ?_
  refine c_seq (fun K11 hK11 => ?_)
  refine c_reg ?_
  refine n_q hF hS (q_move rfl) rfl (fun a hF => ?_)
  refine n_q hF hS (q_move rfl) rfl (fun a hF => ?_)
  refine n_q hF hS (q_shl64r (r := Y) rfl rfl (show s ≤ 64 by omega) hY hYd.symm) rfl (fun a hF => ?_)
  refine n_q hF hS (q_assign rfl) rfl (fun a hF => ?_)
  refine hK11 _ _ ?_
  refine c_seq (fun K12 hK12 => ?_)
  refine c_reg ?_
  refine n_q hF hS (q_move rfl) rfl (fun a hF => ?_)
  refine n_q hF hS (q_shrR (r := Y1) rfl rfl (show 32 ≤ 64 by omega) hY1.symm) rfl (fun a hF => ?_)
  refine n_q hF hS (q_assign rfl) rfl (fun a hF => ?_)
  refine hK12 _ _ ?_
  refine c_seq (fun K13 hK13 => ?_)
  refine c_reg ?_
  refine n_q hF hS (q_move rfl) rfl (fun a hF => ?_)
  refine n_q hF hS (q_mask32r (r := Y0) rfl rfl hY hY0.symm) rfl (fun a hF => ?_)
  refine n_q hF hS (q_assign rfl) rfl (fun a hF => ?_)
  refine hK13 _ _ ?_
  refine c_seq (fun K14 hK14 => ?_)
  refine c_reg ?_
  refine n_q hF hS (q_move rfl) rfl (fun a hF => ?_)
  refine n_q hF hS (q_move rfl) rfl (fun a hF => ?_)
  refine n_q hF hS (q_shl64n rfl rfl (show s ≤ 64 by omega) d1) rfl (fun a hF => ?_)
  refine n_q hF hS (q_move rfl) rfl (fun a hF => ?_)
  refine n_q hF hS (q_move rfl) rfl (fun a hF => ?_)
  refine n_q hF hS (q_sub64n (a := 64) rfl rfl (by decide) (by omega)) rfl (fun a hF => ?_)
  refine n_q hF hS (q_shr rfl rfl (show 64 - s ≤ 64 by omega)) rfl (fun a hF => ?_)
  refine n_q hF hS (q_or64r (r := U) rfl rfl d1 (Nat.lt_of_le_of_lt (Nat.div_le_self _ _) hlo) d2) rfl (fun a hF => ?_)
  refine n_q hF hS (q_assign rfl) rfl (fun a hF => ?_)
  refine hK14 _ _ ?_
  refine c_seq (fun K15 hK15 => ?_)
  refine c_reg ?_
  refine n_q hF hS (q_move rfl) rfl (fun a hF => ?_)
  refine n_q hF hS (q_move rfl) rfl (fun a hF => ?_)
  refine n_q hF hS (q_shlR (r := V) rfl rfl (show s ≤ 64 by omega) hV.symm) rfl (fun a hF => ?_)
  refine n_q hF hS (q_assign rfl) rfl (fun a hF => ?_)
  refine hK15 _ _ ?_
  refine c_seq (fun K16 hK16 => ?_)
  refine c_reg ?_
  refine n_q hF hS (q_move rfl) rfl (fun a hF => ?_)
  refine n_q hF hS (q_shrR (r := V1) rfl rfl (show 32 ≤ 64 by omega) hV1.symm) rfl (fun a hF => ?_)
  refine n_q hF hS (q_assign rfl) rfl (fun a hF => ?_)
  refine hK16 _ _ ?_
  refine c_seq (fun K17 hK17 => ?_)
  refine c_reg ?_
  refine n_q hF hS (q_move rfl) rfl (fun a hF => ?_)
  refine n_q hF hS (q_mask32r (r := V0) rfl rfl hVlt hV0.symm) rfl (fun a hF => ?_)
  refine n_q hF hS (q_assign rfl) rfl (fun a hF => ?_)
  refine hK17 _ _ ?_
  refine c_seq (fun K18 hK18 => ?_)
  refine c_reg ?_
  refine n_q hF hS (q_move rfl) rfl (fun a hF => ?_)
  refine n_q hF hS (q_move rfl) rfl (fun a hF => ?_)
  refine n_q hF hS (q_quo64 rfl rfl hU64 (by omega)) rfl (fun a hF => ?_)
  refine n_q hF hS (q_assign rfl) rfl (fun a hF => ?_)
  refine hK18 _ _ ?_
  refine c_seq (fun K19 hK19 => ?_)
  refine c_reg ?_
  refine n_q hF hS (q_move rfl) rfl (fun a hF => ?_)
  refine n_q hF hS (q_move rfl) rfl (fun a hF => ?_)
  refine n_q hF hS (q_move rfl) rfl (fun a hF => ?_)
  refine n_q hF hS (q_mul64n rfl rfl (by omega)) rfl (fun a hF => ?_)
  refine n_q hF hS (q_sub64n rfl rfl hU64 hd1) rfl (fun a hF => ?_)
  refine n_q hF hS (q_assign rfl) rfl (fun a hF => ?_)
  refine hK19 _ _ ?_
  refine c_seq (fun K20 hK20 => ?_)
  refine c_block ?_
  refine c_loopS hF [15, 16, 67, 68, 69, 70, 71, 72, 73, 74, 75, 76, 77, 78, 79, 80, 81, 82, 83, 84, 85]
    (fun p : Nat × Nat => [(15, .int .u64 (p.1 : Int)), (16, .int .u64 (p.2 : Int))])
    (fun _ => [])
    (fun p _ => Est 4294967296 U V1 Y Y1 p.1 p.2 ∧ p.2 < 4294967296)
    (fun p => p.1) ((U / Y1, U - U / Y1 * Y1)) ⟨rfl, rfl, trivial⟩ (hS) (⟨E1.1, Nat.lt_trans E1.2 hY1lt⟩) ?_
  clear hF hS
  intro p a w H hle hF hS hJ
  have hl0 := Le.refl H
  obtain ⟨q, r⟩ := p
  obtain ⟨he, hr⟩ := hJ
  dsimp only at hF he hr
  have hle1 := he.le
  refine c_seq (fun K21 hK21 => ?_)
  refine c_seq (fun K22 hK22 => ?_)
  refine c_reg ?_
  refine n_q hF hS (q_move rfl) rfl (fun a hF => ?_)
  refine n_q hF hS (q_geq rfl rfl) rfl (fun a hF => ?_)
  refine n_q hF hS (q_move rfl) rfl (fun a hF => ?_)
  refine spd hF (s := 69) rfl (fun hc69 hF => ?_) (fun hc69 hF => ?_)
  refine n_no hF (b := true) rfl rfl rfl (fun a hF => ?_)
  refine n_no hF (b := true) rfl rfl rfl (fun a hF => ?_)
  refine n_no hF (b := true) rfl rfl rfl (fun a hF => ?_)
  refine n_no hF (b := true) rfl rfl rfl (fun a hF => ?_)
  refine n_no hF (b := true) rfl rfl rfl (fun a hF => ?_)
  refine n_no hF (b := true) rfl rfl rfl (fun a hF => ?_)
  refine n_no hF (b := true) rfl rfl rfl (fun a hF => ?_)
  refine n_no hF (b := true) rfl rfl rfl (fun a hF => ?_)
  refine n_q hF hS (q_pick (b := true) rfl rfl) rfl (fun a hF => ?_)
  refine hK22 _ _ ?_
  refine c_true hF rfl ?_
  refine wp_skip ?_
  refine hK21 _ _ ?_
  refine c_block ?_
  refine c_seq (fun K23 hK23 => ?_)
  refine c_reg ?_
  have ht := est_test hYY hYp d3 hV1lt he (by omega)
  have h1q : 1 ≤ q := Nat.le_trans (Nat.le_add_left _ _) ht
  refine n_q hF hS (q_move rfl) rfl (fun a hF => ?_)
  refine n_q hF hS (q_sub64n (b := 1) rfl rfl (by omega) (by omega)) rfl (fun a hF => ?_)
  refine n_q hF hS (q_assign rfl) rfl (fun a hF => ?_)
  refine hK23 _ _ ?_
  refine c_seq (fun K24 hK24 => ?_)
  refine c_reg ?_
  refine n_q hF hS (q_move rfl) rfl (fun a hF => ?_)
  refine n_q hF hS (q_move rfl) rfl (fun a hF => ?_)
  refine n_q hF hS (q_add64n rfl rfl (by omega)) rfl (fun a hF => ?_)
  refine n_q hF hS (q_assign rfl) rfl (fun a hF => ?_)
  refine hK24 _ _ ?_
  refine c_seq (fun K25 hK25 => ?_)
  refine c_reg ?_
  refine n_q hF hS (q_move rfl) rfl (fun a hF => ?_)
  refine n_q hF hS (q_geq rfl rfl) rfl (fun a hF => ?_)
  refine hK25 _ _ ?_
  refine spd hF (s := 85) rfl (fun hc85 hF => ?_) (fun hc85 hF => ?_)
  refine c_true hF rfl ?_
  have hq1 : q - 1 = (U * 4294967296 + V1) / Y := est_break hYY hYp hY0lt (est_next he ht) (by omega) (by omega)
  refine c_exit ?_
  refine hK20 _ _ ?_
  refine c_seq (fun K26 hK26 => ?_)
  refine c_reg ?_
  refine n_q hF hS (q_move rfl) rfl (fun a hF => ?_)
  refine n_q hF hS (q_mul64 (b := 4294967296) rfl rfl) rfl (fun a hF => ?_)
  refine n_q hF hS (q_move rfl) rfl (fun a hF => ?_)
  refine n_q hF hS (q_add64 rfl rfl) rfl (fun a hF => ?_)
  refine n_q hF hS (q_move rfl) rfl (fun a hF => ?_)
  refine n_q hF hS (q_move rfl) rfl (fun a hF => ?_)
  refine n_q hF hS (q_mul64 rfl rfl) rfl (fun a hF => ?_)
  refine n_q hF hS (q_sub64r (r := R1) rfl rfl (Nat.le_of_lt (Nat.mod_lt _ (by decide))) (by rw [hR1]; exact sub_words (by decide) hq1.symm (by rw [← hR1]; omega))) rfl (fun a hF => ?_)
  refine n_q hF hS (q_assign rfl) rfl (fun a hF => ?_)
  refine hK26 _ _ ?_
  refine c_seq (fun K27 hK27 => ?_)
  refine c_reg ?_
  refine n_q hF hS (q_move rfl) rfl (fun a hF => ?_)
  refine n_q hF hS (q_move rfl) rfl (fun a hF => ?_)
  refine n_q hF hS (q_quo64 rfl rfl (by omega) (by omega)) rfl (fun a hF => ?_)
  refine n_q hF hS (q_assign rfl) rfl (fun a hF => ?_)
  refine hK27 _ _ ?_
  refine c_seq (fun K28 hK28 => ?_)
  refine c_reg ?_
  refine n_q hF hS (q_move rfl) rfl (fun a hF => ?_)
  refine n_q hF hS (q_move rfl) rfl (fun a hF => ?_)
  refine n_q hF hS (q_move rfl) rfl (fun a hF => ?_)
  refine n_q hF hS (q_mul64n rfl rfl (by omega)) rfl (fun a hF => ?_)
  refine n_q hF hS (q_sub64n rfl rfl (by omega) hd2) rfl (fun a hF => ?_)
  refine n_q hF hS (q_assign rfl) rfl (fun a hF => ?_)
  refine hK28 _ _ ?_
  refine c_seq (fun K29 hK29 => ?_)
  refine c_block ?_
  refine c_loopS hF [16, 18, 102, 103, 104, 105, 106, 107, 108, 109, 110, 111, 112, 113, 114, 115, 116, 117, 118, 119, 120]
    (fun p : Nat × Nat => [(18, .int .u64 (p.1 : Int)), (16, .int .u64 (p.2 : Int))])
    (fun _ => [])
    (fun p _ => Est 4294967296 R1 V0 Y Y1 p.1 p.2 ∧ p.2 < 4294967296)
    (fun p => p.1) ((R1 / Y1, R1 - R1 / Y1 * Y1)) ⟨rfl, rfl, trivial⟩ (hS) (⟨E2.1, Nat.lt_trans E2.2 hY1lt⟩) ?_
  clear hF hS
  intro p a w H hle hF hS hJ
  have hl1 := Le.refl H
  obtain ⟨q, r⟩ := p
  obtain ⟨he, hr⟩ := hJ
  dsimp only at hF he hr
  have hle1 := he.le
  refine c_seq (fun K30 hK30 => ?_)
  refine c_seq (fun K31 hK31 => ?_)
  refine c_reg ?_
  refine n_q hF hS (q_move rfl) rfl (fun a hF => ?_)
  refine n_q hF hS (q_geq rfl rfl) rfl (fun a hF => ?_)
  refine n_q hF hS (q_move rfl) rfl (fun a hF => ?_)
  refine spd hF (s := 104) rfl (fun hc104 hF => ?_) (fun hc104 hF => ?_)
  refine n_no hF (b := true) rfl rfl rfl (fun a hF => ?_)
  refine n_no hF (b := true) rfl rfl rfl (fun a hF => ?_)
  refine n_no hF (b := true) rfl rfl rfl (fun a hF => ?_)
  refine n_no hF (b := true) rfl rfl rfl (fun a hF => ?_)
  refine n_no hF (b := true) rfl rfl rfl (fun a hF => ?_)
  refine n_no hF (b := true) rfl rfl rfl (fun a hF => ?_)
  refine n_no hF (b := true) rfl rfl rfl (fun a hF => ?_)
  refine n_no hF (b := true) rfl rfl rfl (fun a hF => ?_)
  refine n_q hF hS (q_pick (b := true) rfl rfl) rfl (fun a hF => ?_)
  refine hK31 _ _ ?_
  refine c_true hF rfl ?_
  refine wp_skip ?_
  refine hK30 _ _ ?_
  refine c_block ?_
  refine c_seq (fun K32 hK32 => ?_)
  refine c_reg ?_
  have ht := est_test hYY hYp hR1lt hV0lt he (by omega)
  have h1q : 1 ≤ q := Nat.le_trans (Nat.le_add_left _ _) ht
  refine n_q hF hS (q_move rfl) rfl (fun a hF => ?_)
  refine n_q hF hS (q_sub64n (b := 1) rfl rfl (by omega) (by omega)) rfl (fun a hF => ?_)
  refine n_q hF hS (q_assign rfl) rfl (fun a hF => ?_)
  refine hK32 _ _ ?_
  refine c_seq (fun K33 hK33 => ?_)
  refine c_reg ?_
  refine n_q hF hS (q_move rfl) rfl (fun a hF => ?_)
  refine n_q hF hS (q_move rfl) rfl (fun a hF => ?_)
  refine n_q hF hS (q_add64n rfl rfl (by omega)) rfl (fun a hF => ?_)
  refine n_q hF hS (q_assign rfl) rfl (fun a hF => ?_)
  refine hK33 _ _ ?_
  refine c_seq (fun K34 hK34 => ?_)
  refine c_reg ?_
  refine n_q hF hS (q_move rfl) rfl (fun a hF => ?_)
  refine n_q hF hS (q_geq rfl rfl) rfl (fun a hF => ?_)
  refine hK34 _ _ ?_
  refine spd hF (s := 120) rfl (fun hc120 hF => ?_) (fun hc120 hF => ?_)
  refine c_true hF rfl ?_
  have hq0 : q - 1 = (R1 * 4294967296 + V0) / Y := est_break hYY hYp hY0lt (est_next he ht) (by omega) (by omega)
  refine c_exit ?_
  refine hK29 _ _ ?_
  refine c_seq (fun K35 hK35 => ?_)
  refine c_reg ?_
  refine n_q hF hS (q_move rfl) rfl (fun a hF => ?_)
  refine n_q hF hS (q_mul64n (b := 4294967296) rfl rfl (by omega)) rfl (fun a hF => ?_)
  refine n_q hF hS (q_move rfl) rfl (fun a hF => ?_)
  refine n_q hF hS (q_add64n rfl rfl (by omega)) rfl (fun a hF => ?_)
  refine n_q hF hS (q_move rfl) rfl (fun a hF => ?_)
  refine n_q hF hS (q_mul64 (b := 4294967296) rfl rfl) rfl (fun a hF => ?_)
  refine n_q hF hS (q_move rfl) rfl (fun a hF => ?_)
  refine n_q hF hS (q_add64 rfl rfl) rfl (fun a hF => ?_)
  refine n_q hF hS (q_move rfl) rfl (fun a hF => ?_)
  refine n_q hF hS (q_move rfl) rfl (fun a hF => ?_)
  refine n_q hF hS (q_mul64 rfl rfl) rfl (fun a hF => ?_)
  refine n_q hF hS (q_sub64r (r := (R1 * 4294967296 + V0) % Y) rfl rfl (Nat.le_of_lt (Nat.mod_lt _ (by decide))) (sub_words (by decide) hq0.symm (Nat.lt_trans hR2lt hY))) rfl (fun a hF => ?_)
  refine n_q hF hS (q_move rfl) rfl (fun a hF => ?_)
  refine n_q hF hS (q_shr rfl rfl (show s ≤ 64 by omega)) rfl (fun a hF => ?_)
  refine n_q hF hS (q_assign rfl) rfl (fun a hF => ?_)
  refine n_q hF hS (q_assign rfl) rfl (fun a hF => ?_)
  refine hK35 _ _ ?_
  refine c_ret ?_
  repeat (first | refine ret_then ?_ | refine ret_blk ?_)
  refine c_ret' (P := Tryd.prog) (fn := Tryd.f124) rfl hF hS (.tmp rfl (.tmp rfl .nil)) ⟨_, rfl, ?_⟩
  exact ⟨by rw [T2.1, ← T3, ← hq1, ← hq0]; rfl, hS.same⟩
  refine c_false hF rfl ?_
  refine wp_skip ?_
  exact ⟨(q - 1, r + Y1), _, (by show q - 1 < q; omega), hl1, hF.back ⟨rfl, rfl, trivial⟩ rfl (by repeat first | exact Ext.refl _ _ | refine Ext.rem' rfl ?_ | refine Ext.push rfl ?_), hS.lose (.refl _), ⟨est_next he ht, by have h := hc120; simp only [Int.not_le] at h; omega⟩⟩
  refine n_yes hF rfl ?_
  refine n_q hF hS (q_move rfl) rfl (fun a hF => ?_)
  refine n_yes hF rfl ?_
  refine n_q hF hS (q_move rfl) rfl (fun a hF => ?_)
  refine n_yes hF rfl ?_
  refine n_q hF hS (q_mul64n rfl rfl (hm1 _ (by omega))) rfl (fun a hF => ?_)
  refine n_yes hF rfl ?_
  refine n_q hF hS (q_move rfl) rfl (fun a hF => ?_)
  refine n_yes hF rfl ?_
  refine n_q hF hS (q_mul64n (a := 4294967296) rfl rfl (by omega)) rfl (fun a hF => ?_)
  refine n_yes hF rfl ?_
  refine n_q hF hS (q_move rfl) rfl (fun a hF => ?_)
  refine n_yes hF rfl ?_
  refine n_q hF hS (q_add64n rfl rfl (by omega)) rfl (fun a hF => ?_)
  refine n_yes hF rfl ?_
  refine n_q hF hS (q_gtr rfl rfl) rfl (fun a hF => ?_)
  refine n_q hF hS (q_pick (b := false) rfl rfl) rfl (fun a hF => ?_)
  refine hK31 _ _ ?_
  refine spd hF (s := 113) rfl (fun hc113 hF => ?_) (fun hc113 hF => ?_)
  refine c_true hF rfl ?_
  refine wp_skip ?_
  refine hK30 _ _ ?_
  refine c_block ?_
  refine c_seq (fun K36 hK36 => ?_)
  refine c_reg ?_
  have ht := est_test hYY hYp hR1lt hV0lt he (by omega)
  have h1q : 1 ≤ q := Nat.le_trans (Nat.le_add_left _ _) ht
  refine n_q hF hS (q_move rfl) rfl (fun a hF => ?_)
  refine n_q hF hS (q_sub64n (b := 1) rfl rfl (by omega) (by omega)) rfl (fun a hF => ?_)
  refine n_q hF hS (q_assign rfl) rfl (fun a hF => ?_)
  refine hK36 _ _ ?_
  refine c_seq (fun K37 hK37 => ?_)
  refine c_reg ?_
  refine n_q hF hS (q_move rfl) rfl (fun a hF => ?_)
  refine n_q hF hS (q_move rfl) rfl (fun a hF => ?_)
  refine n_q hF hS (q_add64n rfl rfl (by omega)) rfl (fun a hF => ?_)
  refine n_q hF hS (q_assign rfl) rfl (fun a hF => ?_)
  refine hK37 _ _ ?_
  refine c_seq (fun K38 hK38 => ?_)
  refine c_reg ?_
  refine n_q hF hS (q_move rfl) rfl (fun a hF => ?_)
  refine n_q hF hS (q_geq rfl rfl) rfl (fun a hF => ?_)
  refine hK38 _ _ ?_
  refine spd hF (s := 120) rfl (fun hc120 hF => ?_) (fun hc120 hF => ?_)
  refine c_true hF rfl ?_
  have hq0 : q - 1 = (R1 * 4294967296 + V0) / Y := est_break hYY hYp hY0lt (est_next he ht) (by omega) (by omega)
  refine c_exit ?_
  refine hK29 _ _ ?_
  refine c_seq (fun K39 hK39 => ?_)
  refine c_reg ?_
  refine n_q hF hS (q_move rfl) rfl (fun a hF => ?_)
  refine n_q hF hS (q_mul64n (b := 4294967296) rfl rfl (by omega)) rfl (fun a hF => ?_)
  refine n_q hF hS (q_move rfl) rfl (fun a hF => ?_)
  refine n_q hF hS (q_add64n rfl rfl (by omega)) rfl (fun a hF => ?_)
  refine n_q hF hS (q_move rfl) rfl (fun a hF => ?_)
  refine n_q hF hS (q_mul64 (b := 4294967296) rfl rfl) rfl (fun a hF => ?_)
  refine n_q hF hS (q_move rfl) rfl (fun a hF => ?_)
  refine n_q hF hS (q_add64 rfl rfl) rfl (fun a hF => ?_)
  refine n_q hF hS (q_move rfl) rfl (fun a hF => ?_)
  refine n_q hF hS (q_move rfl) rfl (fun a hF => ?_)
  refine n_q hF hS (q_mul64 rfl rfl) rfl (fun a hF => ?_)
  refine n_q hF hS (q_sub64r (r := (R1 * 4294967296 + V0) % Y) rfl rfl (Nat.le_of_lt (Nat.mod_lt _ (by decide))) (sub_words (by decide) hq0.symm (Nat.lt_trans hR2lt hY))) rfl (fun a hF => ?_)
  refine n_q hF hS (q_move rfl) rfl (fun a hF => ?_)
  refine n_q hF hS (q_shr rfl rfl (show s ≤ 64 by omega)) rfl (fun a hF => ?_)
  refine n_q hF hS (q_assign rfl) rfl (fun a hF => ?_)
  refine n_q hF hS (q_assign rfl) rfl (fun a hF => ?_)
  refine hK39 _ _ ?_
  refine c_ret ?_
  repeat (first | refine ret_then ?_ | refine ret_blk ?_)
  refine c_ret' (P := Tryd.prog) (fn := Tryd.f124) rfl hF hS (.tmp rfl (.tmp rfl .nil)) ⟨_, rfl, ?_⟩
  exact ⟨by rw [T2.1, ← T3, ← hq1, ← hq0]; rfl, hS.same⟩
  refine c_false hF rfl ?_
  refine wp_skip ?_
  exact ⟨(q - 1, r + Y1), _, (by show q - 1 < q; omega), hl1, hF.back ⟨rfl, rfl, trivial⟩ rfl (by repeat first | exact Ext.refl _ _ | refine Ext.rem' rfl ?_ | refine Ext.push rfl ?_), hS.lose (.refl _), ⟨est_next he ht, by have h := hc120; simp only [Int.not_le] at h; omega⟩⟩
  refine c_false hF rfl ?_
  have hq0 : q = (R1 * 4294967296 + V0) / Y := est_done hYY hYp he (by omega)
  refine c_exit ?_
  refine hK29 _ _ ?_
  refine c_seq (fun K40 hK40 => ?_)
  refine c_reg ?_
  refine n_q hF hS (q_move rfl) rfl (fun a hF => ?_)
  refine n_q hF hS (q_mul64n (b := 4294967296) rfl rfl (by omega)) rfl (fun a hF => ?_)
  refine n_q hF hS (q_move rfl) rfl (fun a hF => ?_)
  refine n_q hF hS (q_add64n rfl rfl (by omega)) rfl (fun a hF => ?_)
  refine n_q hF hS (q_move rfl) rfl (fun a hF => ?_)
  refine n_q hF hS (q_mul64 (b := 4294967296) rfl rfl) rfl (fun a hF => ?_)
  refine n_q hF hS (q_move rfl) rfl (fun a hF => ?_)
  refine n_q hF hS (q_add64 rfl rfl) rfl (fun a hF => ?_)
  refine n_q hF hS (q_move rfl) rfl (fun a hF => ?_)
  refine n_q hF hS (q_move rfl) rfl (fun a hF => ?_)
  refine n_q hF hS (q_mul64 rfl rfl) rfl (fun a hF => ?_)
  refine n_q hF hS (q_sub64r (r := (R1 * 4294967296 + V0) % Y) rfl rfl (Nat.le_of_lt (Nat.mod_lt _ (by decide))) (sub_words (by decide) hq0.symm (Nat.lt_trans hR2lt hY))) rfl (fun a hF => ?_)
  refine n_q hF hS (q_move rfl) rfl (fun a hF => ?_)
  refine n_q hF hS (q_shr rfl rfl (show s ≤ 64 by omega)) rfl (fun a hF => ?_)
  refine n_q hF hS (q_assign rfl) rfl (fun a hF => ?_)
  refine n_q hF hS (q_assign rfl) rfl (fun a hF => ?_)
  refine hK40 _ _ ?_
  refine c_ret ?_
  repeat (first | refine ret_then ?_ | refine ret_blk ?_)
  refine c_ret' (P := Tryd.prog) (fn := Tryd.f124) rfl hF hS (.tmp rfl (.tmp rfl .nil)) ⟨_, rfl, ?_⟩
  exact ⟨by rw [T2.1, ← T3, ← hq1, ← hq0]; rfl, hS.same⟩
  refine c_false hF rfl ?_
  refine wp_skip ?_
  exact ⟨(q - 1, r + Y1), _, (by show q - 1 < q; omega), hl0, hF.back ⟨rfl, rfl, trivial⟩ rfl (by repeat first | exact Ext.refl _ _ | refine Ext.rem' rfl ?_ | refine Ext.push rfl ?_), hS.lose (.refl _), ⟨est_next he ht, by have h := hc85; simp only [Int.not_le] at h; omega⟩⟩
  refine n_yes hF rfl ?_
  refine n_q hF hS (q_move rfl) rfl (fun a hF => ?_)
  refine n_yes hF rfl ?_
  refine n_q hF hS (q_move rfl) rfl (fun a hF => ?_)
  refine n_yes hF rfl ?_
  refine n_q hF hS (q_mul64n rfl rfl (hm1 _ (by omega))) rfl (fun a hF => ?_)
  refine n_yes hF rfl ?_
  refine n_q hF hS (q_move rfl) rfl (fun a hF => ?_)
  refine n_yes hF rfl ?_
  refine n_q hF hS (q_mul64n (a := 4294967296) rfl rfl (by omega)) rfl (fun a hF => ?_)
  refine n_yes hF rfl ?_
  refine n_q hF hS (q_move rfl) rfl (fun a hF => ?_)
  refine n_yes hF rfl ?_
  refine n_q hF hS (q_add64n rfl rfl (by omega)) rfl (fun a hF => ?_)
  refine n_yes hF rfl ?_
  refine n_q hF hS (q_gtr rfl rfl) rfl (fun a hF => ?_)
  refine n_q hF hS (q_pick (b := false) rfl rfl) rfl (fun a hF => ?_)
  refine hK22 _ _ ?_
  refine spd hF (s := 78) rfl (fun hc78 hF => ?_) (fun hc78 hF => ?_)
  refine c_true hF rfl ?_
  refine wp_skip ?_
  refine hK21 _ _ ?_
  refine c_block ?_
  refine c_seq (fun K41 hK41 => ?_)
  refine c_reg ?_
  have ht := est_test hYY hYp d3 hV1lt he (by omega)
  have h1q : 1 ≤ q := Nat.le_trans (Nat.le_add_left _ _) ht
  refine n_q hF hS (q_move rfl) rfl (fun a hF => ?_)
  refine n_q hF hS (q_sub64n (b := 1) rfl rfl (by omega) (by omega)) rfl (fun a hF => ?_)
  refine n_q hF hS (q_assign rfl) rfl (fun a hF => ?_)
  refine hK41 _ _ ?_
  refine c_seq (fun K42 hK42 => ?_)
  refine c_reg ?_
  refine n_q hF hS (q_move rfl) rfl (fun a hF => ?_)
  refine n_q hF hS (q_move rfl) rfl (fun a hF => ?_)
  refine n_q hF hS (q_add64n rfl rfl (by omega)) rfl (fun a hF => ?_)
  refine n_q hF hS (q_assign rfl) rfl (fun a hF => ?_)
  refine hK42 _ _ ?_
  refine c_seq (fun K43 hK43 => ?_)
  refine c_reg ?_
  refine n_q hF hS (q_move rfl) rfl (fun a hF => ?_)
  refine n_q hF hS (q_geq rfl rfl) rfl (fun a hF => ?_)
  refine hK43 _ _ ?_
  refine spd hF (s := 85) rfl (fun hc85 hF => ?_) (fun hc85 hF => ?_)
  refine c_true hF rfl ?_
  have hq1 : q - 1 = (U * 4294967296 + V1) / Y := est_break hYY hYp hY0lt (est_next he ht) (by omega) (by omega)
  refine c_exit ?_
  refine hK20 _ _ ?_
  refine c_seq (fun K44 hK44 => ?_)
  refine c_reg ?_
  refine n_q hF hS (q_move rfl) rfl (fun a hF => ?_)
  refine n_q hF hS (q_mul64 (b := 4294967296) rfl rfl) rfl (fun a hF => ?_)
  refine n_q hF hS (q_move rfl) rfl (fun a hF => ?_)
  refine n_q hF hS (q_add64 rfl rfl) rfl (fun a hF => ?_)
  refine n_q hF hS (q_move rfl) rfl (fun a hF => ?_)
  refine n_q hF hS (q_move rfl) rfl (fun a hF => ?_)
  refine n_q hF hS (q_mul64 rfl rfl) rfl (fun a hF => ?_)
  refine n_q hF hS (q_sub64r (r := R1) rfl rfl (Nat.le_of_lt (Nat.mod_lt _ (by decide))) (by rw [hR1]; exact sub_words (by decide) hq1.symm (by rw [← hR1]; omega))) rfl (fun a hF => ?_)
  refine n_q hF hS (q_assign rfl) rfl (fun a hF => ?_)
  refine hK44 _ _ ?_
  refine c_seq (fun K45 hK45 => ?_)
  refine c_reg ?_
  refine n_q hF hS (q_move rfl) rfl (fun a hF => ?_)
  refine n_q hF hS (q_move rfl) rfl (fun a hF => ?_)
  refine n_q hF hS (q_quo64 rfl rfl (by omega) (by omega)) rfl (fun a hF => ?_)
  refine n_q hF hS (q_assign rfl) rfl (fun a hF => ?_)
  refine hK45 _ _ ?_
  refine c_seq (fun K46 hK46 => ?_)
  refine c_reg ?_
  refine n_q hF hS (q_move rfl) rfl (fun a hF => ?_)
  refine n_q hF hS (q_move rfl) rfl (fun a hF => ?_)
  refine n_q hF hS (q_move rfl) rfl (fun a hF => ?_)
  refine n_q hF hS (q_mul64n rfl rfl (by omega)) rfl (fun a hF => ?_)
  refine n_q hF hS (q_sub64n rfl rfl (by omega) hd2) rfl (fun a hF => ?_)
  refine n_q hF hS (q_assign rfl) rfl (fun a hF => ?_)
  refine hK46 _ _ ?_
  refine c_seq (fun K47 hK47 => ?_)
  refine c_block ?_
  refine c_loopS hF [16, 18, 102, 103, 104, 105, 106, 107, 108, 109, 110, 111, 112, 113, 114, 115, 116, 117, 118, 119, 120]
    (fun p : Nat × Nat => [(18, .int .u64 (p.1 : Int)), (16, .int .u64 (p.2 : Int))])
    (fun _ => [])
    (fun p _ => Est 4294967296 R1 V0 Y Y1 p.1 p.2 ∧ p.2 < 4294967296)
    (fun p => p.1) ((R1 / Y1, R1 - R1 / Y1 * Y1)) ⟨rfl, rfl, trivial⟩ (hS) (⟨E2.1, Nat.lt_trans E2.2 hY1lt⟩) ?_
  clear hF hS
  intro p a w H hle hF hS hJ
  have hl2 := Le.refl H
  obtain ⟨q, r⟩ := p
  obtain ⟨he, hr⟩ := hJ
  dsimp only at hF he hr
  have hle1 := he.le
  refine c_seq (fun K48 hK48 => ?_)
  refine c_seq (fun K49 hK49 => ?_)
  refine c_reg ?_
  refine n_q hF hS (q_move rfl) rfl (fun a hF => ?_)
  refine n_q hF hS (q_geq rfl rfl) rfl (fun a hF => ?_)
  refine n_q hF hS (q_move rfl) rfl (fun a hF => ?_)
  refine spd hF (s := 104) rfl (fun hc104 hF => ?_) (fun hc104 hF => ?_)
  refine n_no hF (b := true) rfl rfl rfl (fun a hF => ?_)
  refine n_no hF (b := true) rfl rfl rfl (fun a hF => ?_)
  refine n_no hF (b := true) rfl rfl rfl (fun a hF => ?_)
  refine n_no hF (b := true) rfl rfl rfl (fun a hF => ?_)
  refine n_no hF (b := true) rfl rfl rfl (fun a hF => ?_)
  refine n_no hF (b := true) rfl rfl rfl (fun a hF => ?_)
  refine n_no hF (b := true) rfl rfl rfl (fun a hF => ?_)
  refine n_no hF (b := true) rfl rfl rfl (fun a hF => ?_)
  refine n_q hF hS (q_pick (b := true) rfl rfl) rfl (fun a hF => ?_)
  refine hK49 _ _ ?_
  refine c_true hF rfl ?_
  refine wp_skip ?_
  refine hK48 _ _ ?_
  refine c_block ?_
  refine c_seq (fun K50 hK50 => ?_)
  refine c_reg ?_
  have ht := est_test hYY hYp hR1lt hV0lt he (by omega)
  have h1q : 1 ≤ q := Nat.le_trans (Nat.le_add_left _ _) ht
  refine n_q hF hS (q_move rfl) rfl (fun a hF => ?_)
  refine n_q hF hS (q_sub64n (b := 1) rfl rfl (by omega) (by omega)) rfl (fun a hF => ?_)
  refine n_q hF hS (q_assign rfl) rfl (fun a hF => ?_)
  refine hK50 _ _ ?_
  refine c_seq (fun K51 hK51 => ?_)
  refine c_reg ?_
  refine n_q hF hS (q_move rfl) rfl (fun a hF => ?_)
  refine n_q hF hS (q_move rfl) rfl (fun a hF => ?_)
  refine n_q hF hS (q_add64n rfl rfl (by omega)) rfl (fun a hF => ?_)
  refine n_q hF hS (q_assign rfl) rfl (fun a hF => ?_)
  refine hK51 _ _ ?_
  refine c_seq (fun K52 hK52 => ?_)
  refine c_reg ?_
  refine n_q hF hS (q_move rfl) rfl (fun a hF => ?_)
  refine n_q hF hS (q_geq rfl rfl) rfl (fun a hF => ?_)
  refine hK52 _ _ ?_
  refine spd hF (s := 120) rfl (fun hc120 hF => ?_) (fun hc120 hF => ?_)
  refine c_true hF rfl ?_
  have hq0 : q - 1 = (R1 * 4294967296 + V0) / Y := est_break hYY hYp hY0lt (est_next he ht) (by omega) (by omega)
  refine c_exit ?_
  refine hK47 _ _ ?_
  refine c_seq (fun K53 hK53 => ?_)
  refine c_reg ?_
  refine n_q hF hS (q_move rfl) rfl (fun a hF => ?_)
  refine n_q hF hS (q_mul64n (b := 4294967296) rfl rfl (by omega)) rfl (fun a hF => ?_)
  refine n_q hF hS (q_move rfl) rfl (fun a hF => ?_)
  refine n_q hF hS (q_add64n rfl rfl (by omega)) rfl (fun a hF => ?_)
  refine n_q hF hS (q_move rfl) rfl (fun a hF => ?_)
  refine n_q hF hS (q_mul64 (b := 4294967296) rfl rfl) rfl (fun a hF => ?_)
  refine n_q hF hS (q_move rfl) rfl (fun a hF => ?_)
  refine n_q hF hS (q_add64 rfl rfl) rfl (fun a hF => ?_)
  refine n_q hF hS (q_move rfl) rfl (fun a hF => ?_)
  refine n_q hF hS (q_move rfl) rfl (fun a hF => ?_)
  refine n_q hF hS (q_mul64 rfl rfl) rfl (fun a hF => ?_)
  refine n_q hF hS (q_sub64r (r := (R1 * 4294967296 + V0) % Y) rfl rfl (Nat.le_of_lt (Nat.mod_lt _ (by decide))) (sub_words (by decide) hq0.symm (Nat.lt_trans hR2lt hY))) rfl (fun a hF => ?_)
  refine n_q hF hS (q_move rfl) rfl (fun a hF => ?_)
  refine n_q hF hS (q_shr rfl rfl (show s ≤ 64 by omega)) rfl (fun a hF => ?_)
  refine n_q hF hS (q_assign rfl) rfl (fun a hF => ?_)
  refine n_q hF hS (q_assign rfl) rfl (fun a hF => ?_)
  refine hK53 _ _ ?_
  refine c_ret ?_
  repeat (first | refine ret_then ?_ | refine ret_blk ?_)
  refine c_ret' (P := Tryd.prog) (fn := Tryd.f124) rfl hF hS (.tmp rfl (.tmp rfl .nil)) ⟨_, rfl, ?_⟩
  exact ⟨by rw [T2.1, ← T3, ← hq1, ← hq0]; rfl, hS.same⟩
  refine c_false hF rfl ?_
  refine wp_skip ?_
  exact ⟨(q - 1, r + Y1), _, (by show q - 1 < q; omega), hl2, hF.back ⟨rfl, rfl, trivial⟩ rfl (by repeat first | exact Ext.refl _ _ | refine Ext.rem' rfl ?_ | refine Ext.push rfl ?_), hS.lose (.refl _), ⟨est_next he ht, by have h := hc120; simp only [Int.not_le] at h; omega⟩⟩
  refine n_yes hF rfl ?_
  refine n_q hF hS (q_move rfl) rfl (fun a hF => ?_)
  refine n_yes hF rfl ?_
  refine n_q hF hS (q_move rfl) rfl (fun a hF => ?_)
  refine n_yes hF rfl ?_
  refine n_q hF hS (q_mul64n rfl rfl (hm1 _ (by omega))) rfl (fun a hF => ?_)
  refine n_yes hF rfl ?_
  refine n_q hF hS (q_move rfl) rfl (fun a hF => ?_)
  refine n_yes hF rfl ?_
  refine n_q hF hS (q_mul64n (a := 4294967296) rfl rfl (by omega)) rfl (fun a hF => ?_)
  refine n_yes hF rfl ?_
  refine n_q hF hS (q_move rfl) rfl (fun a hF => ?_)
  refine n_yes hF rfl ?_
  refine n_q hF hS (q_add64n rfl rfl (by omega)) rfl (fun a hF => ?_)
  refine n_yes hF rfl ?_
  refine n_q hF hS (q_gtr rfl rfl) rfl (fun a hF => ?_)
  refine n_q hF hS (q_pick (b := false) rfl rfl) rfl (fun a hF => ?_)
  refine hK49 _ _ ?_
  refine spd hF (s := 113) rfl (fun hc113 hF => ?_) (fun hc113 hF => ?_)
  refine c_true hF rfl ?_
  refine wp_skip ?_
  refine hK48 _ _ ?_
  refine c_block ?_
  refine c_seq (fun K54 hK54 => ?_)
  refine c_reg ?_
  have ht := est_test hYY hYp hR1lt hV0lt he (by omega)
  have h1q : 1 ≤ q := Nat.le_trans (Nat.le_add_left _ _) ht
  refine n_q hF hS (q_move rfl) rfl (fun a hF => ?_)
  refine n_q hF hS (q_sub64n (b := 1) rfl rfl (by omega) (by omega)) rfl (fun a hF => ?_)
  refine n_q hF hS (q_assign rfl) rfl (fun a hF => ?_)
  refine hK54 _ _ ?_
  refine c_seq (fun K55 hK55 => ?_)
  refine c_reg ?_
  refine n_q hF hS (q_move rfl) rfl (fun a hF => ?_)
  refine n_q hF hS (q_move rfl) rfl (fun a hF => ?_)
  refine n_q hF hS (q_add64n rfl rfl (by omega)) rfl (fun a hF => ?_)
  refine n_q hF hS (q_assign rfl) rfl (fun a hF => ?_)
  refine hK55 _ _ ?_
  refine c_seq (fun K56 hK56 => ?_)
  refine c_reg ?_
  refine n_q hF hS (q_move rfl) rfl (fun a hF => ?_)
  refine n_q hF hS (q_geq rfl rfl) rfl (fun a hF => ?_)
  refine hK56 _ _ ?_
  refine spd hF (s := 120) rfl (fun hc120 hF => ?_) (fun hc120 hF => ?_)
  refine c_true hF rfl ?_
  have hq0 : q - 1 = (R1 * 4294967296 + V0) / Y := est_break hYY hYp hY0lt (est_next he ht) (by omega) (by omega)
  refine c_exit ?_
  refine hK47 _ _ ?_
  refine c_seq (fun K57 hK57 => ?_)
  refine c_reg ?_
  refine n_q hF hS (q_move rfl) rfl (fun a hF => ?_)
  refine n_q hF hS (q_mul64n (b := 4294967296) rfl rfl (by omega)) rfl (fun a hF => ?_)
  refine n_q hF hS (q_move rfl) rfl (fun a hF => ?_)
  refine n_q hF hS (q_add64n rfl rfl (by omega)) rfl (fun a hF => ?_)
  refine n_q hF hS (q_move rfl) rfl (fun a hF => ?_)
  refine n_q hF hS (q_mul64 (b := 4294967296) rfl rfl) rfl (fun a hF => ?_)
  refine n_q hF hS (q_move rfl) rfl (fun a hF => ?_)
  refine n_q hF hS (q_add64 rfl rfl) rfl (fun a hF => ?_)
  refine n_q hF hS (q_move rfl) rfl (fun a hF => ?_)
  refine n_q hF hS (q_move rfl) rfl (fun a hF => ?_)
  refine n_q hF hS (q_mul64 rfl rfl) rfl (fun a hF => ?_)
  refine n_q hF hS (q_sub64r (r := (R1 * 4294967296 + V0) % Y) rfl rfl (Nat.le_of_lt (Nat.mod_lt _ (by decide))) (sub_words (by decide) hq0.symm (Nat.lt_trans hR2lt hY))) rfl (fun a hF => ?_)
  refine n_q hF hS (q_move rfl) rfl (fun a hF => ?_)
  refine n_q hF hS (q_shr rfl rfl (show s ≤ 64 by omega)) rfl (fun a hF => ?_)
  refine n_q hF hS (q_assign rfl) rfl (fun a hF => ?_)
  refine n_q hF hS (q_assign rfl) rfl (fun a hF => ?_)
  refine hK57 _ _ ?_
  refine c_ret ?_
  repeat (first | refine ret_then ?_ | refine ret_blk ?_)
  refine c_ret' (P := Tryd.prog) (fn := Tryd.f124) rfl hF hS (.tmp rfl (.tmp rfl .nil)) ⟨_, rfl, ?_⟩
  exact ⟨by rw [T2.1, ← T3, ← hq1, ← hq0]; rfl, hS.same⟩
  refine c_false hF rfl ?_
  refine wp_skip ?_
  exact ⟨(q - 1, r + Y1), _, (by show q - 1 < q; omega), hl2, hF.back ⟨rfl, rfl, trivial⟩ rfl (by repeat first | exact Ext.refl _ _ | refine Ext.rem' rfl ?_ | refine Ext.push rfl ?_), hS.lose (.refl _), ⟨est_next he ht, by have h := hc120; simp only [Int.not_le] at h; omega⟩⟩
  refine c_false hF rfl ?_
  have hq0 : q = (R1 * 4294967296 + V0) / Y := est_done hYY hYp he (by omega)
  refine c_exit ?_
  refine hK47 _ _ ?_
  refine c_seq (fun K58 hK58 => ?_)
  refine c_reg ?_
  refine n_q hF hS (q_move rfl) rfl (fun a hF => ?_)
  refine n_q hF hS (q_mul64n (b := 4294967296) rfl rfl (by omega)) rfl (fun a hF => ?_)
  refine n_q hF hS (q_move rfl) rfl (fun a hF => ?_)
  refine n_q hF hS (q_add64n rfl rfl (by omega)) rfl (fun a hF => ?_)
  refine n_q hF hS (q_move rfl) rfl (fun a hF => ?_)
  refine n_q hF hS (q_mul64 (b := 4294967296) rfl rfl) rfl (fun a hF => ?_)
  refine n_q hF hS (q_move rfl) rfl (fun a hF => ?_)
  refine n_q hF hS (q_add64 rfl rfl) rfl (fun a hF => ?_)
  refine n_q hF hS (q_move rfl) rfl (fun a hF => ?_)
  refine n_q hF hS (q_move rfl) rfl (fun a hF => ?_)
  refine n_q hF hS (q_mul64 rfl rfl) rfl (fun a hF => ?_)
  refine n_q hF hS (q_sub64r (r := (R1 * 4294967296 + V0) % Y) rfl rfl (Nat.le_of_lt (Nat.mod_lt _ (by decide))) (sub_words (by decide) hq0.symm (Nat.lt_trans hR2lt hY))) rfl (fun a hF => ?_)
  refine n_q hF hS (q_move rfl) rfl (fun a hF => ?_)
  refine n_q hF hS (q_shr rfl rfl (show s ≤ 64 by omega)) rfl (fun a hF => ?_)
  refine n_q hF hS (q_assign rfl) rfl (fun a hF => ?_)
  refine n_q hF hS (q_assign rfl) rfl (fun a hF => ?_)
  refine hK58 _ _ ?_
  refine c_ret ?_
  repeat (first | refine ret_then ?_ | refine ret_blk ?_)
  refine c_ret' (P := Tryd.prog) (fn := Tryd.f124) rfl hF hS (.tmp rfl (.tmp rfl .nil)) ⟨_, rfl, ?_⟩
  exact ⟨by rw [T2.1, ← T3, ← hq1, ← hq0]; rfl, hS.same⟩
  refine c_false hF rfl ?_
  refine wp_skip ?_
  exact ⟨(q - 1, r + Y1), _, (by show q - 1 < q; omega), hl0, hF.back ⟨rfl, rfl, trivial⟩ rfl (by repeat first | exact Ext.refl _ _ | refine Ext.rem' rfl ?_ | refine Ext.push rfl ?_), hS.lose (.refl _), ⟨est_next he ht, by have h := hc85; simp only [Int.not_le] at h; omega⟩⟩
  refine c_false hF rfl ?_
  have hq1 : q = (U * 4294967296 + V1) / Y := est_done hYY hYp he (by omega)
  refine c_exit ?_
  refine hK20 _ _ ?_
  refine c_seq (fun K59 hK59 => ?_)
  refine c_reg ?_
  refine n_q hF hS (q_move rfl) rfl (fun a hF => ?_)
  refine n_q hF hS (q_mul64 (b := 4294967296) rfl rfl) rfl (fun a hF => ?_)
  refine n_q hF hS (q_move rfl) rfl (fun a hF => ?_)
  refine n_q hF hS (q_add64 rfl rfl) rfl (fun a hF => ?_)
  refine n_q hF hS (q_move rfl) rfl (fun a hF => ?_)
  refine n_q hF hS (q_move rfl) rfl (fun a hF => ?_)
  refine n_q hF hS (q_mul64 rfl rfl) rfl (fun a hF => ?_)
  refine n_q hF hS (q_sub64r (r := R1) rfl rfl (Nat.le_of_lt (Nat.mod_lt _ (by decide))) (by rw [hR1]; exact sub_words (by decide) hq1.symm (by rw [← hR1]; omega))) rfl (fun a hF => ?_)
  refine n_q hF hS (q_assign rfl) rfl (fun a hF => ?_)
  refine hK59 _ _ ?_
  refine c_seq (fun K60 hK60 => ?_)
  refine c_reg ?_
  refine n_q hF hS (q_move rfl) rfl (fun a hF => ?_)
  refine n_q hF hS (q_move rfl) rfl (fun a hF => ?_)
  refine n_q hF hS (q_quo64 rfl rfl (by omega) (by omega)) rfl (fun a hF => ?_)
  refine n_q hF hS (q_assign rfl) rfl (fun a hF => ?_)
  refine hK60 _ _ ?_
  refine c_seq (fun K61 hK61 => ?_)
  refine c_reg ?_
  refine n_q hF hS (q_move rfl) rfl (fun a hF => ?_)
  refine n_q hF hS (q_move rfl) rfl (fun a hF => ?_)
  refine n_q hF hS (q_move rfl) rfl (fun a hF => ?_)
  refine n_q hF hS (q_mul64n rfl rfl (by omega)) rfl (fun a hF => ?_)
  refine n_q hF hS (q_sub64n rfl rfl (by omega) hd2) rfl (fun a hF => ?_)
  refine n_q hF hS (q_assign rfl) rfl (fun a hF => ?_)
  refine hK61 _ _ ?_
  refine c_seq (fun K62 hK62 => ?_)
  refine c_block ?_
  refine c_loopS hF [16, 18, 102, 103, 104, 105, 106, 107, 108, 109, 110, 111, 112, 113, 114, 115, 116, 117, 118, 119, 120]
    (fun p : Nat × Nat => [(18, .int .u64 (p.1 : Int)), (16, .int .u64 (p.2 : Int))])
    (fun _ => [])
    (fun p _ => Est 4294967296 R1 V0 Y Y1 p.1 p.2 ∧ p.2 < 4294967296)
    (fun p => p.1) ((R1 / Y1, R1 - R1 / Y1 * Y1)) ⟨rfl, rfl, trivial⟩ (hS) (⟨E2.1, Nat.lt_trans E2.2 hY1lt⟩) ?_
  clear hF hS
  intro p a w H hle hF hS hJ
  have hl3 := Le.refl H
  obtain ⟨q, r⟩ := p
  obtain ⟨he, hr⟩ := hJ
  dsimp only at hF he hr
  have hle1 := he.le
  refine c_seq (fun K63 hK63 => ?_)
  refine c_seq (fun K64 hK64 => ?_)
  refine c_reg ?_
  refine n_q hF hS (q_move rfl) rfl (fun a hF => ?_)
  refine n_q hF hS (q_geq rfl rfl) rfl (fun a hF => ?_)
  refine n_q hF hS (q_move rfl) rfl (fun a hF => ?_)
  refine spd hF (s := 104) rfl (fun hc104 hF => ?_) (fun hc104 hF => ?_)
  refine n_no hF (b := true) rfl rfl rfl (fun a hF => ?_)
  refine n_no hF (b := true) rfl rfl rfl (fun a hF => ?_)
  refine n_no hF (b := true) rfl rfl rfl (fun a hF => ?_)
  refine n_no hF (b := true) rfl rfl rfl (fun a hF => ?_)
  refine n_no hF (b := true) rfl rfl rfl (fun a hF => ?_)
  refine n_no hF (b := true) rfl rfl rfl (fun a hF => ?_)
  refine n_no hF (b := true) rfl rfl rfl (fun a hF => ?_)
  refine n_no hF (b := true) rfl rfl rfl (fun a hF => ?_)
  refine n_q hF hS (q_pick (b := true) rfl rfl) rfl (fun a hF => ?_)
  refine hK64 _ _ ?_
  refine c_true hF rfl ?_
  refine wp_skip ?_
  refine hK63 _ _ ?_
  refine c_block ?_
  refine c_seq (fun K65 hK65 => ?_)
  refine c_reg ?_
  have ht := est_test hYY hYp hR1lt hV0lt he (by omega)
  have h1q : 1 ≤ q := Nat.le_trans (Nat.le_add_left _ _) ht
  refine n_q hF hS (q_move rfl) rfl (fun a hF => ?_)
  refine n_q hF hS (q_sub64n (b := 1) rfl rfl (by omega) (by omega)) rfl (fun a hF => ?_)
  refine n_q hF hS (q_assign rfl) rfl (fun a hF => ?_)
  refine hK65 _ _ ?_
  refine c_seq (fun K66 hK66 => ?_)
  refine c_reg ?_
  refine n_q hF hS (q_move rfl) rfl (fun a hF => ?_)
  refine n_q hF hS (q_move rfl) rfl (fun a hF => ?_)
  refine n_q hF hS (q_add64n rfl rfl (by omega)) rfl (fun a hF => ?_)
  refine n_q hF hS (q_assign rfl) rfl (fun a hF => ?_)
  refine hK66 _ _ ?_
  refine c_seq (fun K67 hK67 => ?_)
  refine c_reg ?_
  refine n_q hF hS (q_move rfl) rfl (fun a hF => ?_)
  refine n_q hF hS (q_geq rfl rfl) rfl (fun a hF => ?_)
  refine hK67 _ _ ?_
  refine spd hF (s := 120) rfl (fun hc120 hF => ?_) (fun hc120 hF => ?_)
  refine c_true hF rfl ?_
  have hq0 : q - 1 = (R1 * 4294967296 + V0) / Y := est_break hYY hYp hY0lt (est_next he ht) (by omega) (by omega)
  refine c_exit ?_
  refine hK62 _ _ ?_
  refine c_seq (fun K68 hK68 => ?_)
  refine c_reg ?_
  refine n_q hF hS (q_move rfl) rfl (fun a hF => ?_)
  refine n_q hF hS (q_mul64n (b := 4294967296) rfl rfl (by omega)) rfl (fun a hF => ?_)
  refine n_q hF hS (q_move rfl) rfl (fun a hF => ?_)
  refine n_q hF hS (q_add64n rfl rfl (by omega)) rfl (fun a hF => ?_)
  refine n_q hF hS (q_move rfl) rfl (fun a hF => ?_)
  refine n_q hF hS (q_mul64 (b := 4294967296) rfl rfl) rfl (fun a hF => ?_)
  refine n_q hF hS (q_move rfl) rfl (fun a hF => ?_)
  refine n_q hF hS (q_add64 rfl rfl) rfl (fun a hF => ?_)
  refine n_q hF hS (q_move rfl) rfl (fun a hF => ?_)
  refine n_q hF hS (q_move rfl) rfl (fun a hF => ?_)
  refine n_q hF hS (q_mul64 rfl rfl) rfl (fun a hF => ?_)
  refine n_q hF hS (q_sub64r (r := (R1 * 4294967296 + V0) % Y) rfl rfl (Nat.le_of_lt (Nat.mod_lt _ (by decide))) (sub_words (by decide) hq0.symm (Nat.lt_trans hR2lt hY))) rfl (fun a hF => ?_)
  refine n_q hF hS (q_move rfl) rfl (fun a hF => ?_)
  refine n_q hF hS (q_shr rfl rfl (show s ≤ 64 by omega)) rfl (fun a hF => ?_)
  refine n_q hF hS (q_assign rfl) rfl (fun a hF => ?_)
  refine n_q hF hS (q_assign rfl) rfl (fun a hF => ?_)
  refine hK68 _ _ ?_
  refine c_ret ?_
  repeat (first | refine ret_then ?_ | refine ret_blk ?_)
  refine c_ret' (P := Tryd.prog) (fn := Tryd.f124) rfl hF hS (.tmp rfl (.tmp rfl .nil)) ⟨_, rfl, ?_⟩
  exact ⟨by rw [T2.1, ← T3, ← hq1, ← hq0]; rfl, hS.same⟩
  refine c_false hF rfl ?_
  refine wp_skip ?_
  exact ⟨(q - 1, r + Y1), _, (by show q - 1 < q; omega), hl3, hF.back ⟨rfl, rfl, trivial⟩ rfl (by repeat first | exact Ext.refl _ _ | refine Ext.rem' rfl ?_ | refine Ext.push rfl ?_), hS.lose (.refl _), ⟨est_next he ht, by have h := hc120; simp only [Int.not_le] at h; omega⟩⟩
  refine n_yes hF rfl ?_
  refine n_q hF hS (q_move rfl) rfl (fun a hF => ?_)
  refine n_yes hF rfl ?_
  refine n_q hF hS (q_move rfl) rfl (fun a hF => ?_)
  refine n_yes hF rfl ?_
  refine n_q hF hS (q_mul64n rfl rfl (hm1 _ (by omega))) rfl (fun a hF => ?_)
  refine n_yes hF rfl ?_
  refine n_q hF hS (q_move rfl) rfl (fun a hF => ?_)
  refine n_yes hF rfl ?_
  refine n_q hF hS (q_mul64n (a := 4294967296) rfl rfl (by omega)) rfl (fun a hF => ?_)
  refine n_yes hF rfl ?_
  refine n_q hF hS (q_move rfl) rfl (fun a hF => ?_)
  refine n_yes hF rfl ?_
  refine n_q hF hS (q_add64n rfl rfl (by omega)) rfl (fun a hF => ?_)
  refine n_yes hF rfl ?_
  refine n_q hF hS (q_gtr rfl rfl) rfl (fun a hF => ?_)
  refine n_q hF hS (q_pick (b := false) rfl rfl) rfl (fun a hF => ?_)
  refine hK64 _ _ ?_
  refine spd hF (s := 113) rfl (fun hc113 hF => ?_) (fun hc113 hF => ?_)
  refine c_true hF rfl ?_
  refine wp_skip ?_
  refine hK63 _ _ ?_
  refine c_block ?_
  refine c_seq (fun K69 hK69 => ?_)
  refine c_reg ?_
  have ht := est_test hYY hYp hR1lt hV0lt he (by omega)
  have h1q : 1 ≤ q := Nat.le_trans (Nat.le_add_left _ _) ht
  refine n_q hF hS (q_move rfl) rfl (fun a hF => ?_)
  refine n_q hF hS (q_sub64n (b := 1) rfl rfl (by omega) (by omega)) rfl (fun a hF => ?_)
  refine n_q hF hS (q_assign rfl) rfl (fun a hF => ?_)
  refine hK69 _ _ ?_
  refine c_seq (fun K70 hK70 => ?_)
  refine c_reg ?_
  refine n_q hF hS (q_move rfl) rfl (fun a hF => ?_)
  refine n_q hF hS (q_move rfl) rfl (fun a hF => ?_)
  refine n_q hF hS (q_add64n rfl rfl (by omega)) rfl (fun a hF => ?_)
  refine n_q hF hS (q_assign rfl) rfl (fun a hF => ?_)
  refine hK70 _ _ ?_
  refine c_seq (fun K71 hK71 => ?_)
  refine c_reg ?_
  refine n_q hF hS (q_move rfl) rfl (fun a hF => ?_)
  refine n_q hF hS (q_geq rfl rfl) rfl (fun a hF => ?_)
  refine hK71 _ _ ?_
  refine spd hF (s := 120) rfl (fun hc120 hF => ?_) (fun hc120 hF => ?_)
  refine c_true hF rfl ?_
  have hq0 : q - 1 = (R1 * 4294967296 + V0) / Y := est_break hYY hYp hY0lt (est_next he ht) (by omega) (by omega)
  refine c_exit ?_
  refine hK62 _ _ ?_
  refine c_seq (fun K72 hK72 => ?_)
  refine c_reg ?_
  refine n_q hF hS (q_move rfl) rfl (fun a hF => ?_)
  refine n_q hF hS (q_mul64n (b := 4294967296) rfl rfl (by omega)) rfl (fun a hF => ?_)
  refine n_q hF hS (q_move rfl) rfl (fun a hF => ?_)
  refine n_q hF hS (q_add64n rfl rfl (by omega)) rfl (fun a hF => ?_)
  refine n_q hF hS (q_move rfl) rfl (fun a hF => ?_)
  refine n_q hF hS (q_mul64 (b := 4294967296) rfl rfl) rfl (fun a hF => ?_)
  refine n_q hF hS (q_move rfl) rfl (fun a hF => ?_)
  refine n_q hF hS (q_add64 rfl rfl) rfl (fun a hF => ?_)
  refine n_q hF hS (q_move rfl) rfl (fun a hF => ?_)
  refine n_q hF hS (q_move rfl) rfl (fun a hF => ?_)
  refine n_q hF hS (q_mul64 rfl rfl) rfl (fun a hF => ?_)
  refine n_q hF hS (q_sub64r (r := (R1 * 4294967296 + V0) % Y) rfl rfl (Nat.le_of_lt (Nat.mod_lt _ (by decide))) (sub_words (by decide) hq0.symm (Nat.lt_trans hR2lt hY))) rfl (fun a hF => ?_)
  refine n_q hF hS (q_move rfl) rfl (fun a hF => ?_)
  refine n_q hF hS (q_shr rfl rfl (show s ≤ 64 by omega)) rfl (fun a hF => ?_)
  refine n_q hF hS (q_assign rfl) rfl (fun a hF => ?_)
  refine n_q hF hS (q_assign rfl) rfl (fun a hF => ?_)
  refine hK72 _ _ ?_
  refine c_ret ?_
  repeat (first | refine ret_then ?_ | refine ret_blk ?_)
  refine c_ret' (P := Tryd.prog) (fn := Tryd.f124) rfl hF hS (.tmp rfl (.tmp rfl .nil)) ⟨_, rfl, ?_⟩
  exact ⟨by rw [T2.1, ← T3, ← hq1, ← hq0]; rfl, hS.same⟩
  refine c_false hF rfl ?_
  refine wp_skip ?_
  exact ⟨(q - 1, r + Y1), _, (by show q - 1 < q; omega), hl3, hF.back ⟨rfl, rfl, trivial⟩ rfl (by repeat first | exact Ext.refl _ _ | refine Ext.rem' rfl ?_ | refine Ext.push rfl ?_), hS.lose (.refl _), ⟨est_next he ht, by have h := hc120; simp only [Int.not_le] at h; omega⟩⟩
  refine c_false hF rfl ?_
  have hq0 : q = (R1 * 4294967296 + V0) / Y := est_done hYY hYp he (by omega)
  refine c_exit ?_
  refine hK62 _ _ ?_
  refine c_seq (fun K73 hK73 => ?_)
  refine c_reg ?_
  refine n_q hF hS (q_move rfl) rfl (fun a hF => ?_)
  refine n_q hF hS (q_mul64n (b := 4294967296) rfl rfl (by omega)) rfl (fun a hF => ?_)
  refine n_q hF hS (q_move rfl) rfl (fun a hF => ?_)
  refine n_q hF hS (q_add64n rfl rfl (by omega)) rfl (fun a hF => ?_)
  refine n_q hF hS (q_move rfl) rfl (fun a hF => ?_)
  refine n_q hF hS (q_mul64 (b := 4294967296) rfl rfl) rfl (fun a hF => ?_)
  refine n_q hF hS (q_move rfl) rfl (fun a hF => ?_)
  refine n_q hF hS (q_add64 rfl rfl) rfl (fun a hF => ?_)
  refine n_q hF hS (q_move rfl) rfl (fun a hF => ?_)
  refine n_q hF hS (q_move rfl) rfl (fun a hF => ?_)
  refine n_q hF hS (q_mul64 rfl rfl) rfl (fun a hF => ?_)
  refine n_q hF hS (q_sub64r (r := (R1 * 4294967296 + V0) % Y) rfl rfl (Nat.le_of_lt (Nat.mod_lt _ (by decide))) (sub_words (by decide) hq0.symm (Nat.lt_trans hR2lt hY))) rfl (fun a hF => ?_)
  refine n_q hF hS (q_move rfl) rfl (fun a hF => ?_)
  refine n_q hF hS (q_shr rfl rfl (show s ≤ 64 by omega)) rfl (fun a hF => ?_)
  refine n_q hF hS (q_assign rfl) rfl (fun a hF => ?_)
  refine n_q hF hS (q_assign rfl) rfl (fun a hF => ?_)
  refine hK73 _ _ ?_
  refine c_ret ?_
  repeat (first | refine ret_then ?_ | refine ret_blk ?_)
  refine c_ret' (P := Tryd.prog) (fn := Tryd.f124) rfl hF hS (.tmp rfl (.tmp rfl .nil)) ⟨_, rfl, ?_⟩
  exact ⟨by rw [T2.1, ← T3, ← hq1, ← hq0]; rfl, hS.same⟩
end Go.Proofs.YtneokajhmonpaaaDoor

namespace Go.Proofs.YtneokajhmonpaaaDoor
open Go Go.RowKit Go.W
set_option maxRecDepth 10000
open Fx

theorem times_c (x y : Nat) (hx : x < 4611686018427377339) (hy : y < 4611686018427377339) (w : World) (H : Froz) (hz : Fz H w) : CallsR Tryd.prog 104 [.int .u64 (x : Int), .int .u64 (y : Int)] w fun v w' => v = .int .u64 ((x * y % 4611686018427377339 : Nat) : Int) ∧ St ⟨w, H, []⟩ H [] w' := by
  refine calls_start Tryd.func104 rfl Tryd.ntmps104 rfl (fun a hF => ?_)
  have hS := St.start w H hz
  have hS0 := hS
  have hlt : x * y / 18446744073709551616 < 4611686018427377339 := by
    rw [Nat.div_lt_iff_lt_mul (by decide)]
    have := Nat.mul_le_mul (Nat.le_of_lt hx) (Nat.le_of_lt hy)
    omega
  have hlo : x * y % 18446744073709551616 < 18446744073709551616 := Nat.mod_lt _ (by decide)
  have hdm : x * y / 18446744073709551616 * 18446744073709551616 + x * y % 18446744073709551616 = x * y := Nat.div_add_mod' _ _
  refine c_seq (fun K1 hK1 => ?_)
  refine c_reg ?_
  refine n_q hF hS (q_assign rfl) rfl (fun a hF => ?_)
  refine hK1 _ _ ?_
  refine c_seq (fun K2 hK2 => ?_)
  refine c_reg ?_
  refine n_q hF hS (q_move rfl) rfl (fun a hF => ?_)
  refine n_q hF hS (q_move rfl) rfl (fun a hF => ?_)
  refine n_l rfl (fun K3 hK3 => l_call en123 hF rfl rfl (Mul64_c _ _ (by omega) (by omega) _ _ hS.fz) (fun v3 w hR a hF => ?_))
  obtain ⟨rfl, hc⟩ := hR
  replace hS := hS.call0 hc
  refine hK3 _ _ ?_
  refine n_q hF hS (q_move rfl) rfl (fun a hF => ?_)
  refine n_q hF hS (q_extract (i := 0) rfl rfl) rfl (fun a hF => ?_)
  refine n_q hF hS (q_extract (i := 1) rfl rfl) rfl (fun a hF => ?_)
  refine n_q hF hS (q_assign rfl) rfl (fun a hF => ?_)
  refine n_q hF hS (q_assign rfl) rfl (fun a hF => ?_)
  refine hK2 _ _ ?_
  refine c_seq (fun K4 hK4 => ?_)
  refine c_reg ?_
  refine n_q hF hS (q_move rfl) rfl (fun a hF => ?_)
  refine n_q hF hS (q_move rfl) rfl (fun a hF => ?_)
  refine n_l rfl (fun K5 hK5 => l_call en124 hF rfl rfl (Div64_c (x * y / 18446744073709551616) (x * y % 18446744073709551616) 4611686018427377339 hlo (by decide) hlt _ _ hS.fz) (fun v5 w hR a hF => ?_))
  obtain ⟨rfl, hc⟩ := hR
  replace hS := hS.call0 hc
  refine hK5 _ _ ?_
  refine n_q hF hS (q_move rfl) rfl (fun a hF => ?_)
  refine n_q hF hS (q_extract (i := 0) rfl rfl) rfl (fun a hF => ?_)
  refine n_q hF hS (q_extract (i := 1) rfl rfl) rfl (fun a hF => ?_)
  refine n_q hF hS (q_assign rfl) rfl (fun a hF => ?_)
  refine n_q hF hS (q_assign rfl) rfl (fun a hF => ?_)
  refine hK4 _ _ ?_
  refine c_seq (fun K6 hK6 => ?_)
  refine c_reg ?_
  refine n_q hF hS (q_move rfl) rfl (fun a hF => ?_)
  refine n_q hF hS (q_assign rfl) rfl (fun a hF => ?_)
  refine hK6 _ _ ?_
  refine c_ret ?_
  repeat (first | refine ret_then ?_ | refine ret_blk ?_)
  refine c_ret' (P := Tryd.prog) (fn := Tryd.f104) rfl hF hS (.tmp rfl .nil) ⟨_, rfl, ?_⟩
  exact ⟨by show Value.int _ _ = _; rw [hdm], hS.same⟩

theorem product_c (x y : Nat) (hx : x < 2305843009213688669) (hy : y < 2305843009213688669) (w : World) (H : Froz) (hz : Fz H w) : CallsR Tryd.prog 113 [.int .i64 (x : Int), .int .i64 (y : Int)] w fun v w' => v = .int .i64 ((x * y % 2305843009213688669 : Nat) : Int) ∧ St ⟨w, H, []⟩ H [] w' := by
  refine calls_start Tryd.func113 rfl Tryd.ntmps113 rfl (fun a hF => ?_)
  have hS := St.start w H hz
  have hS0 := hS
  have hlt : x * y / 18446744073709551616 < 2305843009213688669 := by
    rw [Nat.div_lt_iff_lt_mul (by decide)]
    have := Nat.mul_le_mul (Nat.le_of_lt hx) (Nat.le_of_lt hy)
    omega
  have hlo : x * y % 18446744073709551616 < 18446744073709551616 := Nat.mod_lt _ (by decide)
  have hdm : x * y / 18446744073709551616 * 18446744073709551616 + x * y % 18446744073709551616 = x * y := Nat.div_add_mod' _ _
  have hr := Nat.mod_lt (x * y) (show 0 < 2305843009213688669 by decide)
  refine c_seq (fun K1 hK1 => ?_)
  refine c_reg ?_
  refine n_q hF hS (q_assign rfl) rfl (fun a hF => ?_)
  refine hK1 _ _ ?_
  refine c_seq (fun K2 hK2 => ?_)
  refine c_reg ?_
  refine n_q hF hS (q_move rfl) rfl (fun a hF => ?_)
  refine n_q hF hS (q_cv64 Tryd.underlying3 Tryd.underlying160 rfl (by omega)) rfl (fun a hF => ?_)
  refine n_q hF hS (q_move rfl) rfl (fun a hF => ?_)
  refine n_q hF hS (q_cv64 Tryd.underlying3 Tryd.underlying160 rfl (by omega)) rfl (fun a hF => ?_)
  refine n_l rfl (fun K3 hK3 => l_call en123 hF rfl rfl (Mul64_c _ _ (by omega) (by omega) _ _ hS.fz) (fun v3 w hR a hF => ?_))
  obtain ⟨rfl, hc⟩ := hR
  replace hS := hS.call0 hc
  refine hK3 _ _ ?_
  refine n_q hF hS (q_move rfl) rfl (fun a hF => ?_)
  refine n_q hF hS (q_extract (i := 0) rfl rfl) rfl (fun a hF => ?_)
  refine n_q hF hS (q_extract (i := 1) rfl rfl) rfl (fun a hF => ?_)
  refine n_q hF hS (q_assign rfl) rfl (fun a hF => ?_)
  refine n_q hF hS (q_assign rfl) rfl (fun a hF => ?_)
  refine hK2 _ _ ?_
  refine c_seq (fun K4 hK4 => ?_)
  refine c_reg ?_
  refine n_q hF hS (q_move rfl) rfl (fun a hF => ?_)
  refine n_q hF hS (q_move rfl) rfl (fun a hF => ?_)
  refine n_l rfl (fun K5 hK5 => l_call en124 hF rfl rfl (Div64_c (x * y / 18446744073709551616) (x * y % 18446744073709551616) 2305843009213688669 hlo (by decide) hlt _ _ hS.fz) (fun v5 w hR a hF => ?_))
  obtain ⟨rfl, hc⟩ := hR
  replace hS := hS.call0 hc
  refine hK5 _ _ ?_
  refine n_q hF hS (q_move rfl) rfl (fun a hF => ?_)
  refine n_q hF hS (q_extract (i := 0) rfl rfl) rfl (fun a hF => ?_)
  refine n_q hF hS (q_extract (i := 1) rfl rfl) rfl (fun a hF => ?_)
  refine n_q hF hS (q_assign rfl) rfl (fun a hF => ?_)
  refine n_q hF hS (q_assign rfl) rfl (fun a hF => ?_)
  refine hK4 _ _ ?_
  refine c_seq (fun K6 hK6 => ?_)
  refine c_reg ?_
  refine n_q hF hS (q_move rfl) rfl (fun a hF => ?_)
  refine n_q hF hS (q_cvI Tryd.underlying160 Tryd.underlying3 rfl (by rw [hdm]; omega)) rfl (fun a hF => ?_)
  refine n_q hF hS (q_assign rfl) rfl (fun a hF => ?_)
  refine hK6 _ _ ?_
  refine c_ret ?_
  repeat (first | refine ret_then ?_ | refine ret_blk ?_)
  refine c_ret' (P := Tryd.prog) (fn := Tryd.f113) rfl hF hS (.tmp rfl .nil) ⟨_, rfl, ?_⟩
  exact ⟨by show Value.int _ _ = _; rw [hdm], hS.same⟩

theorem outside1_c (n : Int) (w : World) (H : Froz) (hz : Fz H w) : CallsR Tryd.prog 121 [.int .i64 n] w fun v w' => v = .bool (badQ n) ∧ St ⟨w, H, []⟩ H [] w' := by
  refine calls_start Tryd.func121 rfl Tryd.ntmps121 rfl (fun a hF => ?_)
  have hS := St.start w H hz
  have hS0 := hS
  refine c_seq (fun K1 hK1 => ?_)
  refine c_reg ?_
  refine n_q hF hS (q_assign rfl) rfl (fun a hF => ?_)
  refine hK1 _ _ ?_
  refine c_seq (fun K2 hK2 => ?_)
  refine c_reg ?_
  refine n_q hF hS (q_move rfl) rfl (fun a hF => ?_)
  refine n_q hF hS (q_lss rfl rfl) rfl (fun a hF => ?_)
  refine n_q hF hS (q_move rfl) rfl (fun a hF => ?_)
  refine spd hF (s := 5) rfl (fun hc5 hF => ?_) (fun hc5 hF => ?_)
  refine n_no hF (b := true) rfl rfl rfl (fun a hF => ?_)
  refine n_no hF (b := true) rfl rfl rfl (fun a hF => ?_)
  refine n_q hF hS (q_pick (b := true) rfl rfl) rfl (fun a hF => ?_)
  refine n_q hF hS (q_assign rfl) rfl (fun a hF => ?_)
  refine hK2 _ _ ?_
  refine c_ret ?_
  repeat (first | refine ret_then ?_ | refine ret_blk ?_)
  refine c_ret' (P := Tryd.prog) (fn := Tryd.f121) rfl hF hS (.tmp rfl .nil) ⟨_, rfl, ?_⟩
  exact ⟨by simp [oneOf, badQ_def]; omega, hS.same⟩
  refine n_yes hF rfl ?_
  refine n_q hF hS (q_move rfl) rfl (fun a hF => ?_)
  refine n_yes hF rfl ?_
  refine n_q hF hS (q_geq rfl rfl) rfl (fun a hF => ?_)
  refine n_q hF hS (q_pick (b := false) rfl rfl) rfl (fun a hF => ?_)
  refine n_q hF hS (q_assign rfl) rfl (fun a hF => ?_)
  refine hK2 _ _ ?_
  refine c_ret ?_
  repeat (first | refine ret_then ?_ | refine ret_blk ?_)
  refine c_ret' (P := Tryd.prog) (fn := Tryd.f121) rfl hF hS (.tmp rfl .nil) ⟨_, rfl, ?_⟩
  exact ⟨by simp [oneOf, badQ_def]; omega, hS.same⟩

theorem IndexFuncI_c (xs : List Int) (a : Option Addr) (c : Nat) (hn : xs.length ≤ 1048576) (w : World) (H : Froz) (hz : Fz H w) (hr : RdL H a 1 (xs.map (fun x : Int => [Value.int .i64 x]))) :
    CallsR Tryd.prog 133 [.slice a xs.length c, .func (.func 121) #[] #[]] w fun v w' => v = .int .i64 (idxQ xs) ∧ St ⟨w, H, []⟩ H [] w' := by
  refine calls_start Tryd.func133 rfl Tryd.ntmps133 rfl (fun a hF => ?_)
  have hS := St.start w H hz
  refine c_seq (fun K1 hK1 => ?_)
  refine c_reg ?_
  refine n_q hF hS (q_assign rfl) rfl (fun a hF => ?_)
  refine hK1 _ _ ?_
  refine c_seq (fun K2 hK2 => ?_)
  refine c_seq (fun K3 hK3 => ?_)
  refine c_reg ?_
  refine n_q hF hS (q_move rfl) rfl (fun a hF => ?_)
  refine n_q hF hS (q_len Tryd.underlying169 rfl rfl) rfl (fun a hF => ?_)
  refine n_q hF hS (q_move rfl) rfl (fun a hF => ?_)
  refine hK3 _ _ ?_
  refine c_block ?_
  refine c_loopS hF [4, 5, 8, 9, 10, 11, 12, 13, 14, 15, 16, 17, 18]
    (fun k : Nat => [(8, .int .i64 (k : Int))])
    (fun _ => [])
    (fun k _ => k ≤ xs.length ∧ ∀ j (h : j < k) (h2 : j < xs.length), badQ xs[j] = false)
    (fun k => xs.length - k) (0) ⟨rfl, trivial⟩ (hS) (⟨Nat.zero_le _, fun j h => absurd h (Nat.not_lt_zero _)⟩) ?_
  clear hF hS
  intro k a w H hle hF hS hJ
  replace hr := hr.mono hle
  have hl0 := Le.refl H
  obtain ⟨hk, hno⟩ := hJ
  dsimp only at hF
  refine c_seq (fun K4 hK4 => ?_)
  refine c_reg ?_
  refine n_q hF hS (q_lss rfl rfl) rfl (fun a hF => ?_)
  refine hK4 _ _ ?_
  refine c_seq (fun K5 hK5 => ?_)
  refine spd hF (s := 9) rfl (fun hc9 hF => ?_) (fun hc9 hF => ?_)
  refine c_true hF rfl ?_
  refine wp_skip ?_
  refine hK5 _ _ ?_
  refine c_seq (fun K6 hK6 => ?_)
  refine c_block ?_
  refine c_seq (fun K7 hK7 => ?_)
  refine c_reg ?_
  have hlt : k < xs.length := by omega
  have hel : (xs.map (fun x : Int => [Value.int .i64 x]))[k]? = some [Value.int .i64 xs[k]] := by simp [hlt]
  refine n_q hF hS (q_move rfl) rfl (fun a hF => ?_)
  refine n_q hF hS (q_assign rfl) rfl (fun a hF => ?_)
  refine hK7 _ _ ?_
  refine c_seq (fun K8 hK8 => ?_)
  refine c_reg ?_
  refine n_q hF hS (q_move rfl) rfl (fun a hF => ?_)
  refine n_q hF hS (q_move rfl) rfl (fun a hF => ?_)
  refine n_q hF hS (q_move rfl) rfl (fun a hF => ?_)
  refine n_q hF hS (q_indexAddrS Tryd.underlying169 ty3 rfl rfl (by omega) (hr.some (by simp; omega))) rfl (fun a hF => ?_)
  refine n_q hF hS (q_loadL0 ty3 rfl hr hel (by decide) rfl rfl) rfl (fun a hF => ?_)
  refine n_l rfl (fun K9 hK9 => l_callv en121 hF rfl rfl rfl (outside1_c _ _ _ hS.fz) (fun v9 w hR a hF => ?_))
  obtain ⟨rfl, hc⟩ := hR
  replace hS := hS.call0 hc
  refine hK9 _ _ ?_
  refine hK8 _ _ ?_
  refine sp hF (s := 16) rfl (fun hc16 hF => ?_) (fun hc16 hF => ?_)
  refine c_true hF rfl ?_
  refine c_seq (fun K10 hK10 => ?_)
  refine c_reg ?_
  refine n_q hF hS (q_move rfl) rfl (fun a hF => ?_)
  refine n_q hF hS (q_assign rfl) rfl (fun a hF => ?_)
  refine hK10 _ _ ?_
  refine c_ret ?_
  repeat (first | refine ret_then ?_ | refine ret_blk ?_)
  refine c_ret' (P := Tryd.prog) (fn := Tryd.f133) rfl hF hS (.tmp rfl .nil) ⟨_, rfl, ?_⟩
  exact ⟨by show Value.int _ _ = _; rw [idxQ_yes hlt hc16 hno], hS.same⟩
  refine c_false hF rfl ?_
  refine wp_skip ?_
  refine hK6 _ _ ?_
  refine c_reg ?_
  refine n_q hF hS (q_addI rfl rfl (by omega)) rfl (fun a hF => ?_)
  refine n_q hF hS (q_move rfl) rfl (fun a hF => ?_)
  exact ⟨k + 1, _, (by show xs.length - (k + 1) < xs.length - k; omega), hl0, hF.back ⟨rfl, trivial⟩ rfl (by repeat first | exact Ext.refl _ _ | refine Ext.rem' rfl ?_ | refine Ext.push rfl ?_), hS.lose (.refl _), ⟨by omega, fun j h h2 => by rcases Nat.lt_succ_iff_lt_or_eq.1 h with h | rfl; exact hno j h h2; exact hc16⟩⟩
  refine c_false hF rfl ?_
  refine c_exit ?_
  refine hK2 _ _ ?_
  refine c_seq (fun K11 hK11 => ?_)
  refine c_reg ?_
  refine n_q hF hS (q_assign rfl) rfl (fun a hF => ?_)
  refine hK11 _ _ ?_
  refine c_ret ?_
  repeat (first | refine ret_then ?_ | refine ret_blk ?_)
  refine c_ret' (P := Tryd.prog) (fn := Tryd.f133) rfl hF hS (.tmp rfl .nil) ⟨_, rfl, ?_⟩
  exact ⟨by show Value.int _ _ = _; rw [idxQ_no (fun j h => hno j (by omega) h)], hS.same⟩
end Go.Proofs.YtneokajhmonpaaaDoor

namespace Go.Proofs.YtneokajhmonpaaaDoor
open Go Go.RowKit Go.W
set_option maxRecDepth 10000
open Fx

theorem ContainsFuncI_c (xs : List Int) (a : Option Addr) (c : Nat) (hn : xs.length ≤ 1048576) (w : World) (H : Froz) (hz : Fz H w) (hr : RdL H a 1 (xs.map (fun x : Int => [Value.int .i64 x]))) :
    CallsR Tryd.prog 120 [.slice a xs.length c, .func (.func 121) #[] #[]] w fun v w' => v = .bool (xs.any badQ) ∧ St ⟨w, H, []⟩ H [] w' := by
  refine calls_start Tryd.func120 rfl Tryd.ntmps120 rfl (fun a hF => ?_)
  have hS := St.start w H hz
  refine c_seq (fun K1 hK1 => ?_)
  refine c_reg ?_
  refine n_q hF hS (q_assign rfl) rfl (fun a hF => ?_)
  refine hK1 _ _ ?_
  refine c_seq (fun K2 hK2 => ?_)
  refine c_reg ?_
  refine n_q hF hS (q_move rfl) rfl (fun a hF => ?_)
  refine n_q hF hS (q_move rfl) rfl (fun a hF => ?_)
  refine n_l rfl (fun K3 hK3 => l_call en133 hF rfl rfl (IndexFuncI_c xs _ _ hn _ _ hS.fz hr) (fun v3 w hR a hF => ?_))
  obtain ⟨rfl, hc⟩ := hR
  replace hS := hS.call0 hc
  refine hK3 _ _ ?_
  refine n_q hF hS (q_geq rfl rfl) rfl (fun a hF => ?_)
  refine n_q hF hS (q_assign rfl) rfl (fun a hF => ?_)
  refine hK2 _ _ ?_
  refine c_ret ?_
  repeat (first | refine ret_then ?_ | refine ret_blk ?_)
  refine c_ret' (P := Tryd.prog) (fn := Tryd.f120) rfl hF hS (.tmp rfl .nil) ⟨_, rfl, ?_⟩
  exact ⟨by show Value.bool _ = _; rw [idxQ_any], hS.same⟩

theorem outside_c (xs : List Int) (a : Option Addr) (c : Nat) (hn : xs.length ≤ 1048576) (w : World) (H : Froz) (hz : Fz H w) (hr : RdL H a 1 (xs.map (fun x : Int => [Value.int .i64 x]))) :
    CallsR Tryd.prog 102 [.slice a xs.length c] w fun v w' => v = .bool (xs.any badQ) ∧ St ⟨w, H, []⟩ H [] w' := by
  refine calls_start Tryd.func102 rfl Tryd.ntmps102 rfl (fun a hF => ?_)
  have hS := St.start w H hz
  refine c_seq (fun K1 hK1 => ?_)
  refine c_reg ?_
  refine n_q hF hS (q_assign rfl) rfl (fun a hF => ?_)
  refine hK1 _ _ ?_
  refine c_seq (fun K2 hK2 => ?_)
  refine c_reg ?_
  refine n_q hF hS (q_move rfl) rfl (fun a hF => ?_)
  refine n_l rfl (fun K3 hK3 => l_call en120 hF rfl rfl (ContainsFuncI_c xs _ _ hn _ _ hS.fz hr) (fun v3 w hR a hF => ?_))
  obtain ⟨rfl, hc⟩ := hR
  replace hS := hS.call0 hc
  refine hK3 _ _ ?_
  refine n_q hF hS (q_assign rfl) rfl (fun a hF => ?_)
  refine hK2 _ _ ?_
  refine c_ret ?_
  repeat (first | refine ret_then ?_ | refine ret_blk ?_)
  refine c_ret' (P := Tryd.prog) (fn := Tryd.f102) rfl hF hS (.tmp rfl .nil) ⟨_, rfl, ?_⟩
  exact ⟨rfl, hS.same⟩

theorem fCheck_c (x : Int) (w : World) (H : Froz) (hz : Fz H w) : CallsR Tryd.prog 67 [.int .i64 x] w fun v w' => v = .int .i64 (if badQ x then 1 else 0) ∧ St ⟨w, H, []⟩ H [] w' := by
  refine calls_start Tryd.func67 rfl Tryd.ntmps67 rfl (fun a hF => ?_)
  have hS := St.start w H hz
  have hS0 := hS
  refine c_seq (fun K1 hK1 => ?_)
  refine c_reg ?_
  refine n_q hF hS (q_assign rfl) rfl (fun a hF => ?_)
  refine hK1 _ _ ?_
  refine c_seq (fun K2 hK2 => ?_)
  refine c_seq (fun K3 hK3 => ?_)
  refine c_reg ?_
  refine n_q hF hS (q_move rfl) rfl (fun a hF => ?_)
  refine n_l rfl (fun K4 hK4 => l_buildF (els := [[_]]) Tryd.underlying169 ty3 zr3 hF hS rfl rfl rfl (by simp [Value.cells, dc_length, List.length_replicate, List.length_cons, List.length_nil, List.length_append]) rfl rfl rfl (fun a w b1 hF hle hS r1_1 => ?_))
  refine hK4 _ _ ?_
  refine n_l rfl (fun K5 hK5 => l_call en102 hF rfl rfl (outside_c [x] _ _ (by simp) _ _ hS.fz r1_1) (fun v5 w hR a hF => ?_))
  obtain ⟨rfl, hc⟩ := hR
  replace hS := hS.call0 hc
  refine hK5 _ _ ?_
  refine hK3 _ _ ?_
  refine sp hF (s := 5) rfl (fun hc5 hF => ?_) (fun hc5 hF => ?_)
  refine c_true hF rfl ?_
  refine c_seq (fun K6 hK6 => ?_)
  refine c_reg ?_
  refine n_q hF hS (q_assign rfl) rfl (fun a hF => ?_)
  refine hK6 _ _ ?_
  refine c_ret ?_
  repeat (first | refine ret_then ?_ | refine ret_blk ?_)
  refine c_ret' (P := Tryd.prog) (fn := Tryd.f67) rfl hF hS (.tmp rfl .nil) ⟨_, rfl, ?_⟩
  refine ⟨?_, hS.same⟩
  simp_all [oneOf]
  refine c_false hF rfl ?_
  refine wp_skip ?_
  refine hK2 _ _ ?_
  refine c_seq (fun K7 hK7 => ?_)
  refine c_reg ?_
  refine n_q hF hS (q_assign rfl) rfl (fun a hF => ?_)
  refine hK7 _ _ ?_
  refine c_ret ?_
  repeat (first | refine ret_then ?_ | refine ret_blk ?_)
  refine c_ret' (P := Tryd.prog) (fn := Tryd.f67) rfl hF hS (.tmp rfl .nil) ⟨_, rfl, ?_⟩
  refine ⟨?_, hS.same⟩
  simp_all [oneOf]

theorem fMul_c (x y : Int) (w : World) (H : Froz) (hz : Fz H w) : CallsR Tryd.prog 87 [.int .i64 x, .int .i64 y] w fun v w' => v = .tuple #[.int .i64 (fMulP x y).1, .int .i64 (fMulP x y).2] ∧ St ⟨w, H, []⟩ H [] w' := by
  refine calls_start Tryd.func87 rfl Tryd.ntmps87 rfl (fun a hF => ?_)
  have hS := St.start w H hz
  have hS0 := hS
  refine c_seq (fun K1 hK1 => ?_)
  refine c_reg ?_
  refine n_q hF hS (q_assign rfl) rfl (fun a hF => ?_)
  refine n_q hF hS (q_assign rfl) rfl (fun a hF => ?_)
  refine hK1 _ _ ?_
  refine c_seq (fun K2 hK2 => ?_)
  refine c_seq (fun K3 hK3 => ?_)
  refine c_reg ?_
  refine n_q hF hS (q_move rfl) rfl (fun a hF => ?_)
  refine n_q hF hS (q_move rfl) rfl (fun a hF => ?_)
  refine n_l rfl (fun K4 hK4 => l_buildF (els := [[_], [_]]) Tryd.underlying169 ty3 zr3 hF hS rfl rfl rfl (by simp [Value.cells, dc_length, List.length_replicate, List.length_cons, List.length_nil, List.length_append]) rfl rfl rfl (fun a w b1 hF hle hS r1_2 => ?_))
  refine hK4 _ _ ?_
  refine n_l rfl (fun K5 hK5 => l_call en102 hF rfl rfl (outside_c [x, y] _ _ (by simp) _ _ hS.fz r1_2) (fun v5 w hR a hF => ?_))
  obtain ⟨rfl, hc⟩ := hR
  replace hS := hS.call0 hc
  refine hK5 _ _ ?_
  refine hK3 _ _ ?_
  refine sp hF (s := 9) rfl (fun hc9 hF => ?_) (fun hc9 hF => ?_)
  refine c_true hF rfl ?_
  refine c_seq (fun K6 hK6 => ?_)
  refine c_reg ?_
  refine n_q hF hS (q_assign rfl) rfl (fun a hF => ?_)
  refine n_q hF hS (q_assign rfl) rfl (fun a hF => ?_)
  refine hK6 _ _ ?_
  refine c_ret ?_
  repeat (first | refine ret_then ?_ | refine ret_blk ?_)
  refine c_ret' (P := Tryd.prog) (fn := Tryd.f87) rfl hF hS (.tmp rfl (.tmp rfl .nil)) ⟨_, rfl, ?_⟩
  refine ⟨?_, hS.same⟩
  rw [fMulP_def, if_pos (by simpa using hc9)]; rfl
  refine c_false hF rfl ?_
  refine wp_skip ?_
  refine hK2 _ _ ?_
  refine c_seq (fun K7 hK7 => ?_)
  refine c_reg ?_
  have hxy : ¬ (badQ x ∨ badQ y) := by simpa using hc9
  obtain ⟨⟨p, rfl, ha⟩, ⟨q, rfl, hb⟩⟩ : (∃ a : Nat, x = a ∧ a < 2305843009213688669) ∧ (∃ b : Nat, y = b ∧ b < 2305843009213688669) := by
    simp only [badQ_def, decide_eq_true_eq] at hxy
    exact ⟨⟨x.toNat, by omega, by omega⟩, ⟨y.toNat, by omega, by omega⟩⟩
  refine n_q hF hS (q_move rfl) rfl (fun a hF => ?_)
  refine n_q hF hS (q_move rfl) rfl (fun a hF => ?_)
  refine n_l rfl (fun K8 hK8 => l_call en113 hF rfl rfl (product_c p q ha hb _ _ hS.fz) (fun v8 w hR a hF => ?_))
  obtain ⟨rfl, hc⟩ := hR
  replace hS := hS.call0 hc
  refine hK8 _ _ ?_
  refine n_q hF hS (q_assign rfl) rfl (fun a hF => ?_)
  refine n_q hF hS (q_assign rfl) rfl (fun a hF => ?_)
  refine hK7 _ _ ?_
  refine c_ret ?_
  repeat (first | refine ret_then ?_ | refine ret_blk ?_)
  refine c_ret' (P := Tryd.prog) (fn := Tryd.f87) rfl hF hS (.tmp rfl (.tmp rfl .nil)) ⟨_, rfl, ?_⟩
  refine ⟨?_, hS.same⟩
  rw [fMulP_def, if_neg hxy]; simp [oneOf]

theorem fAdd_c (x y : Int) (w : World) (H : Froz) (hz : Fz H w) : CallsR Tryd.prog 88 [.int .i64 x, .int .i64 y] w fun v w' => v = .tuple #[.int .i64 (fAddP x y).1, .int .i64 (fAddP x y).2] ∧ St ⟨w, H, []⟩ H [] w' := by
  refine calls_start Tryd.func88 rfl Tryd.ntmps88 rfl (fun a hF => ?_)
  have hS := St.start w H hz
  have hS0 := hS
  refine c_seq (fun K1 hK1 => ?_)
  refine c_reg ?_
  refine n_q hF hS (q_assign rfl) rfl (fun a hF => ?_)
  refine n_q hF hS (q_assign rfl) rfl (fun a hF => ?_)
  refine hK1 _ _ ?_
  refine c_seq (fun K2 hK2 => ?_)
  refine c_seq (fun K3 hK3 => ?_)
  refine c_reg ?_
  refine n_q hF hS (q_move rfl) rfl (fun a hF => ?_)
  refine n_q hF hS (q_move rfl) rfl (fun a hF => ?_)
  refine n_l rfl (fun K4 hK4 => l_buildF (els := [[_], [_]]) Tryd.underlying169 ty3 zr3 hF hS rfl rfl rfl (by simp [Value.cells, dc_length, List.length_replicate, List.length_cons, List.length_nil, List.length_append]) rfl rfl rfl (fun a w b1 hF hle hS r1_2 => ?_))
  refine hK4 _ _ ?_
  refine n_l rfl (fun K5 hK5 => l_call en102 hF rfl rfl (outside_c [x, y] _ _ (by simp) _ _ hS.fz r1_2) (fun v5 w hR a hF => ?_))
  obtain ⟨rfl, hc⟩ := hR
  replace hS := hS.call0 hc
  refine hK5 _ _ ?_
  refine hK3 _ _ ?_
  refine sp hF (s := 9) rfl (fun hc9 hF => ?_) (fun hc9 hF => ?_)
  refine c_true hF rfl ?_
  refine c_seq (fun K6 hK6 => ?_)
  refine c_reg ?_
  refine n_q hF hS (q_assign rfl) rfl (fun a hF => ?_)
  refine n_q hF hS (q_assign rfl) rfl (fun a hF => ?_)
  refine hK6 _ _ ?_
  refine c_ret ?_
  repeat (first | refine ret_then ?_ | refine ret_blk ?_)
  refine c_ret' (P := Tryd.prog) (fn := Tryd.f88) rfl hF hS (.tmp rfl (.tmp rfl .nil)) ⟨_, rfl, ?_⟩
  refine ⟨?_, hS.same⟩
  rw [fAddP_def, if_pos (by simpa using hc9)]; rfl
  refine c_false hF rfl ?_
  refine wp_skip ?_
  refine hK2 _ _ ?_
  refine c_seq (fun K7 hK7 => ?_)
  refine c_reg ?_
  have hxy : ¬ (badQ x ∨ badQ y) := by simpa using hc9
  have hxy2 := hxy
  simp only [badQ_def, decide_eq_true_eq] at hxy2
  refine n_q hF hS (q_move rfl) rfl (fun a hF => ?_)
  refine n_q hF hS (q_move rfl) rfl (fun a hF => ?_)
  refine n_q hF hS (q_addI rfl rfl (by omega)) rfl (fun a hF => ?_)
  refine n_q hF hS (q_remI rfl rfl (by omega) (by decide)) rfl (fun a hF => ?_)
  refine n_q hF hS (q_assign rfl) rfl (fun a hF => ?_)
  refine n_q hF hS (q_assign rfl) rfl (fun a hF => ?_)
  refine hK7 _ _ ?_
  refine c_ret ?_
  repeat (first | refine ret_then ?_ | refine ret_blk ?_)
  refine c_ret' (P := Tryd.prog) (fn := Tryd.f88) rfl hF hS (.tmp rfl (.tmp rfl .nil)) ⟨_, rfl, ?_⟩
  refine ⟨?_, hS.same⟩
  rw [fAddP_def, if_neg hxy]; rfl
end Go.Proofs.YtneokajhmonpaaaDoor

namespace Go.Proofs.YtneokajhmonpaaaDoor
open Go Go.RowKit Go.W
set_option maxRecDepth 10000
open Fx

theorem digits1_c (k : Nat) (hk : k < 18446744073709551616) (b : Nat) {Γ : Type} (l : Nat) (r0 : Loop) (Lc : Γ → List Blk) (C : Nat → Γ → Froz → Prop) (X : Nat → Code → Γ → Froz → Prop) (γ0 : Γ) (w : World) (H : Froz) (hx : HR H b [.int .u64 (k : Int)]) (hH0 : Hand w H (Lc γ0)) (hlz : H l = none) (hw0 : w.heap[l]? = some (.loop r0)) (hC0 : C 0 γ0 H) (hRd : RoundsOK Tryd.prog l r0 (bl k) (bitE k) Lc C X H) :
    CallsR Tryd.prog 131 [yv l, .pointer (some ⟨b, 0, none⟩)] w fun _ w' => IterR l r0 (bl k) Lc C X H ((Lc γ0).map (·.b)) w w' := by
  refine calls_start Tryd.func131 rfl Tryd.ntmps131 rfl (fun a hF => ?_)
  have hS := St.startG hH0
  have hb64 := bl_le64 hk
  refine c_seq (fun K1 hK1 => ?_)
  refine c_reg ?_
  refine n_q hF hS (q_loadG (o := 0) (v := .int .u64 (k : Int)) ty160 rfl hx.h (Nat.le_of_ble_eq_true rfl) rfl rfl) rfl (fun a hF => ?_)
  refine n_l rfl (fun K2 hK2 => l_call en132 hF rfl rfl (Len64_c k hk _ _ hS.fz) (fun v2 w hR a hF => ?_))
  obtain ⟨rfl, hc⟩ := hR
  replace hS := hS.call0 hc
  refine hK2 _ _ ?_
  refine n_q hF hS (q_subI rfl rfl (by omega)) rfl (fun a hF => ?_)
  refine n_q hF hS (q_assign rfl) rfl (fun a hF => ?_)
  refine hK1 _ _ ?_
  refine c_block ?_
  refine c_loopL hF [3, 7, 8, 9, 10, 11, 12, 13, 14, 15, 16, 17, 18]
    (fun g : Nat × Γ => [(3, .int .i64 ((bl k : Int) - 1 - (g.1 : Int)))])
    (fun g => Lc g.2)
    (fun g H => g.1 ≤ bl k ∧ C g.1 g.2 H)
    (fun g => bl k - g.1) ((0, γ0)) ⟨by show some (Value.int _ _) = some (Value.int _ _); congr 2; omega, trivial⟩ (hS) (⟨Nat.zero_le _, hC0⟩) ?_
  clear hF hS
  intro g a w H hle hF hS hJ
  replace hx := hx.mono hle
  have hl0 := Le.refl H
  obtain ⟨j, γ⟩ := g
  obtain ⟨hj, hC⟩ := hJ
  try dsimp only at hF hS hj hC
  refine c_seq (fun K3 hK3 => ?_)
  refine c_seq (fun K4 hK4 => ?_)
  refine c_reg ?_
  refine n_q hF hS (q_move rfl) rfl (fun a hF => ?_)
  refine n_q hF hS (q_geq rfl rfl) rfl (fun a hF => ?_)
  refine hK4 _ _ ?_
  refine spd hF (s := 8) rfl (fun hc8 hF => ?_) (fun hc8 hF => ?_)
  refine c_true hF rfl ?_
  refine wp_skip ?_
  refine hK3 _ _ ?_
  refine c_seq (fun K5 hK5 => ?_)
  refine c_block ?_
  refine c_seq (fun K6 hK6 => ?_)
  refine y_reg ?_
  refine y_q hF hS (q_move rfl) rfl rfl (fun a hF => ?_)
  refine y_q hF hS (q_loadG (o := 0) (v := .int .u64 (k : Int)) ty160 rfl hx.h (Nat.le_of_ble_eq_true rfl) rfl rfl) rfl rfl (fun a hF => ?_)
  refine y_q hF hS (q_move rfl) rfl rfl (fun a hF => ?_)
  have hjb : j < bl k := by omega
  refine rw_ hF (s := 13) (u := .int .i64 ((bl k - 1 - j : Nat) : Int)) rfl (congrArg (Value.int .i64) (by omega)) (fun hF => ?_)
  refine y_q hF hS (q_shr (s := bl k - 1 - j) rfl rfl (show bl k - 1 - j ≤ 64 by omega)) rfl rfl (fun a hF => ?_)
  refine y_q hF hS (q_and_eq (m := 18446744073709551616) (r := k / 2 ^ (bl k - 1 - j) % 2) rfl rfl rfl rfl (Nat.lt_of_le_of_lt (Nat.div_le_self _ _) hk) (by decide) (Nat.and_one_is_mod _)) rfl rfl (fun a hF => ?_)
  refine y_q hF hS (q_eqI rfl rfl) rfl rfl (fun a hF => ?_)
  have hlw := hS.loop_at hw0 (hH0.loop_not hw0)
  have hln := hS.loop_no hw0 hlz (hH0.loop_not hw0)
  replace hS : St _ _ (Lc γ ++ []) _ := hS.cast (List.append_nil _).symm
  refine y_y rfl (fun K7 hK7 => y_call hF rfl rfl rfl (hRd j hjb _ _ _ hC hle hS.hand hln hlw) (fun v w hR a hF => ?_) (fun e w h => by rcases h with ⟨rfl, _⟩ | ⟨rfl, _⟩ <;> exact ⟨_, rfl⟩))
  rcases hR with ⟨hv, γ', H', hC', hc, hl'⟩ | ⟨hv, γ', H', c', hX', hn', hc, hl'⟩
  obtain rfl := Ending.returned.inj hv
  have hle' := hc.le
  replace hS := hS.callG hc
  replace hx := hx.mono hle'
  replace hl0 := hl0.mono hle'
  rw [List.append_nil] at hS
  refine hK7 _ _ ?_
  refine y_q hF hS (q_not rfl) rfl rfl (fun a hF => ?_)
  refine hK6 _ _ ?_
  refine c_false hF rfl ?_
  refine wp_skip ?_
  refine hK5 _ _ ?_
  refine c_reg ?_
  refine n_q hF hS (q_move rfl) rfl (fun a hF => ?_)
  refine n_q hF hS (q_subI rfl rfl (by omega)) rfl (fun a hF => ?_)
  refine n_q hF hS (q_assign rfl) rfl (fun a hF => ?_)
  refine rw_ hF (s := 3) (u := .int .i64 ((bl k : Int) - 1 - ((j + 1 : Nat) : Int))) rfl (congrArg (Value.int .i64) (by omega)) (fun hF => ?_)
  exact ⟨(j + 1, γ'), _, (by show bl k - (j + 1) < bl k - j; omega), hl0, hF.back ⟨rfl, trivial⟩ rfl (by repeat first | exact Ext.refl _ _ | refine Ext.rem' rfl ?_ | refine Ext.push rfl ?_), hS.lose (.refl _), ⟨by show j + 1 ≤ _; omega, hC'⟩⟩
  obtain rfl := Ending.returned.inj hv
  have hSl := hS.leave hc
  replace hS := St.start _ _ hc.froz
  refine hK7 _ _ ?_
  refine y_q hF hS (q_not rfl) rfl rfl (fun a hF => ?_)
  refine hK6 _ _ ?_
  refine c_true hF rfl ?_
  refine c_ret ?_
  repeat (first | refine ret_then ?_ | refine ret_blk ?_)
  refine c_ret' (P := Tryd.prog) (fn := Tryd.f131) rfl hF hS .nil ⟨_, rfl, ?_⟩
  exact .inr ⟨j, γ', H', c', hjb, hX', hn', hSl, hl'⟩
  refine c_false hF rfl ?_
  refine c_exit ?_
  repeat (first | refine ex_then ?_ | refine ex_blk ?_)
  refine c_norm (P := Tryd.prog) (fn := Tryd.f131) rfl hF hS .nil ⟨_, rfl, ?_⟩
  obtain rfl : j = bl k := by omega
  exact .inl ⟨γ, _, hC, hS, hS.loop_at hw0 (hH0.loop_not hw0)⟩

theorem digits_c (k : Nat) (w : World) (H : Froz) (hz : Fz H w) :
    CallsR Tryd.prog 119 [.int .u64 (k : Int)] w fun v w' => ∃ b H', v = .func (.func 131) #[] #[.pointer (some ⟨b, 0, none⟩)] ∧ Le H H' ∧ HR H' b [.int .u64 (k : Int)] ∧ St ⟨w, H, []⟩ H' [] w' := by
  refine calls_start Tryd.func119 rfl Tryd.ntmps119 rfl (fun a hF => ?_)
  have hS := St.start w H hz
  refine c_seq (fun K1 hK1 => ?_)
  refine c_reg ?_
  refine n_l rfl (fun K2 hK2 => l_box (cs := [_]) hF hS rfl rfl rfl (fun a w b1 hF hS => hK2 _ _ ?_))
  refine n_q hF hS (q_assign rfl) rfl (fun a hF => ?_)
  refine hK1 _ _ ?_
  refine c_seq (fun K3 hK3 => ?_)
  refine c_reg ?_
  refine n_q hF hS (q_makeFunc rfl rfl) rfl (fun a hF => ?_)
  refine n_q hF hS (q_assign rfl) rfl (fun a hF => ?_)
  refine hK3 _ _ ?_
  refine c_ret ?_
  repeat (first | refine ret_then ?_ | refine ret_blk ?_)
  refine c_ret' (P := Tryd.prog) (fn := Tryd.f119) rfl hF hS (.tmp rfl .nil) ⟨_, rfl, ?_⟩
  obtain ⟨H1, hH1, hle1, hS1⟩ := hS.freeze' (i := 0) rfl
  exact ⟨b1, H1, rfl, hle1, by rw [hH1]; exact frz_hr, hS1⟩

theorem power_c (a_ k : Nat) (ha : a_ < 4611686018427377339) (hk : k < 18446744073709551616) (w : World) (H : Froz) (hz : Fz H w) : CallsR Tryd.prog 101 [.int .u64 (a_ : Int), .int .u64 (k : Int)] w fun v w' => v = .int .u64 (pw a_ k : Int) ∧ St ⟨w, H, []⟩ H [] w' := by
  refine callsM_start Tryd.func101 rfl Tryd.ntmps101 rfl (fun a hF => ?_)
  have hS := St.start w H hz
  refine c_seq (fun K1 hK1 => ?_)
  refine c_reg ?_
  refine n_l rfl (fun K2 hK2 => l_box (cs := [_]) hF hS rfl rfl rfl (fun a w b1 hF hS => hK2 _ _ ?_))
  refine n_q hF hS (q_assign rfl) rfl (fun a hF => ?_)
  refine hK1 _ _ ?_
  refine c_seq (fun K3 hK3 => ?_)
  refine c_reg ?_
  refine n_l rfl (fun K4 hK4 => l_alloc hF hS zr160 rfl (fun a w b2 hF hS => hK4 _ _ ?_))
  refine n_l rfl (fun K5 hK5 => l_store (vs := [_]) ty160 hF hS rfl rfl (i := 0) rfl rfl rfl rfl rfl (fun a w hF hS => hK5 _ _ ?_))
  refine hK3 _ _ ?_
  refine c_seq (fun K6 hK6 => ?_)
  refine c_seq (fun K7 hK7 => ?_)
  refine c_reg ?_
  refine n_q hF hS (q_move rfl) rfl (fun a hF => ?_)
  refine n_l rfl (fun K8 hK8 => l_call en119 hF rfl rfl (digits_c k _ _ hS.fz) (fun v8 w hR a hF => ?_))
  obtain ⟨bk, H1, rfl, hle1, hbk, hc⟩ := hR
  replace hS := hS.call hc
  refine hK8 _ _ ?_
  refine hK7 _ _ ?_
  refine c_block ?_
  have hF0 := hF
  refine c_rangeF (Γ := Nat) (Lr := []) (N := bl k) (Lc := fun g => [⟨b2, [.int .u64 (pw a_ (k / 2 ^ (bl k - g)) : Int)], 160⟩, ⟨b1, [.int .u64 (a_ : Int)], 160⟩]) (C := fun j g _ => g = j) (X := fun _ _ _ _ => False) (γ0 := 0) (bitE k) en131 hF (show St _ _ ([⟨b2, [.int .u64 (pw a_ (k / 2 ^ (bl k - 0)) : Int)], 160⟩, ⟨b1, [.int .u64 (a_ : Int)], 160⟩] ++ []) _ by rw [pw_top a_ k]; exact hS) rfl (rfl) ?_ ?_ ?_ ?_
  intro l r0 w hrs hH hlz hw hR
  exact digits1_c k hk bk l r0 _ _ _ _ w _ hbk hH hlz hw rfl hR
  intro l r0 hrs hrp hps has hbo htm j hj γ H w hC hle hH hlz hw
  refine y_round hF0 hrs hps has hbo htm rfl rfl hH hlz hw (fun a K hF hS hK => ?_)
  obtain rfl : γ = j := hC
  refine k_reg (by repeat first | exact nl_round | exact nl_false | refine nl_then ?_ | refine nl_block ?_) rfl ?_
  refine n_q hF hS (q_assign rfl) rfl (fun a hF => ?_)
  refine hK _ _ _ _ _ hF hS (fun w hS => ?_)
  refine k_block ?_
  refine k_seq (fun K9 hK9 => ?_)
  refine k_reg (by repeat first | exact nl_round | exact nl_false | refine nl_then ?_ | refine nl_block ?_) rfl ?_
  refine n_q hF hS (q_load ty160 rfl (i := 0) rfl rfl rfl rfl) rfl (fun a hF => ?_)
  refine n_q hF hS (q_load ty160 rfl (i := 0) rfl rfl rfl rfl) rfl (fun a hF => ?_)
  refine n_l rfl (fun K10 hK10 => l_call en104 hF rfl rfl (times_c (pw a_ (k / 2 ^ (bl k - γ))) (pw a_ (k / 2 ^ (bl k - γ))) (pw_lt _ _) (pw_lt _ _) _ _ hS.fz) (fun v10 w hR a hF => ?_))
  obtain ⟨rfl, hc⟩ := hR
  replace hS := hS.call0 hc
  refine hK10 _ _ ?_
  refine n_l rfl (fun K11 hK11 => l_store (vs := [_]) ty160 hF hS rfl rfl (i := 0) rfl rfl rfl rfl rfl (fun a w hF hS => hK11 _ _ ?_))
  refine hK9 _ _ ?_
  refine k_seq (fun K12 hK12 => ?_)
  refine k_reg (by repeat first | exact nl_round | exact nl_false | refine nl_then ?_ | refine nl_block ?_) rfl ?_
  refine n_q hF hS (q_move rfl) rfl (fun a hF => ?_)
  refine hK12 _ _ ?_
  refine spd hF (s := 13) rfl (fun hc13 hF => ?_) (fun hc13 hF => ?_)
  refine k_true hF rfl ?_
  refine k_reg (by repeat first | exact nl_round | exact nl_false | refine nl_then ?_ | refine nl_block ?_) rfl ?_
  refine n_q hF hS (q_load ty160 rfl (i := 0) rfl rfl rfl rfl) rfl (fun a hF => ?_)
  refine n_q hF hS (q_load ty160 rfl (i := 1) rfl rfl rfl rfl) rfl (fun a hF => ?_)
  refine n_l rfl (fun K13 hK13 => l_call en104 hF rfl rfl (times_c _ a_ (Nat.mod_lt _ (by decide)) ha _ _ hS.fz) (fun v13 w hR a hF => ?_))
  obtain ⟨rfl, hc⟩ := hR
  replace hS := hS.call0 hc
  refine hK13 _ _ ?_
  refine n_l rfl (fun K14 hK14 => l_store (vs := [_]) ty160 hF hS rfl rfl (i := 0) rfl rfl rfl rfl rfl (fun a w hF hS => hK14 _ _ ?_))
  repeat (first | refine ex_then ?_ | refine ex_blk ?_)
  exact round_norm (a := a) (γ' := γ + 1) hrs hrp hw hlz (hH.loop_not hw) (show St _ _ ([⟨b2, [.int .u64 (pw a_ (k / 2 ^ (bl k - (γ + 1))) : Int)], 160⟩, ⟨b1, [.int .u64 (a_ : Int)], 160⟩]) _ by first | (rw [pw_one hk hj hc13]; exact hS) | (rw [pw_zero_ hk hj hc13]; exact hS)) rfl
  refine k_false hF rfl ?_
  refine k_skipQ ?_
  repeat (first | refine ex_then ?_ | refine ex_blk ?_)
  exact round_norm (a := a) (γ' := γ + 1) hrs hrp hw hlz (hH.loop_not hw) (show St _ _ ([⟨b2, [.int .u64 (pw a_ (k / 2 ^ (bl k - (γ + 1))) : Int)], 160⟩, ⟨b1, [.int .u64 (a_ : Int)], 160⟩]) _ by first | (rw [pw_one hk hj hc13]; exact hS) | (rw [pw_zero_ hk hj hc13]; exact hS)) rfl
  intro γ H w D hC hle hS hD
  obtain rfl : γ = bl k := hC
  replace hS : St _ _ ([⟨b2, [.int .u64 (pw a_ (k / 2 ^ (bl k - bl k)) : Int)], 160⟩, ⟨b1, [.int .u64 (a_ : Int)], 160⟩]) _ := hS
  refine hK6 _ _ ?_
  refine c_seq (fun K15 hK15 => ?_)
  refine c_reg ?_
  refine m_q hF hS (q_load ty160 rfl (i := 0) rfl rfl rfl rfl) rfl (fun a hF => ?_)
  refine m_q hF hS (q_assign rfl) rfl (fun a hF => ?_)
  refine hK15 _ _ ?_
  refine c_ret ?_
  repeat (first | refine ret_then ?_ | refine ret_blk ?_ | refine ex_then ?_ | refine ex_blk ?_)
  refine m_ret (P := Tryd.prog) (fn := Tryd.f101) rfl hF hS hD (.tmp rfl .nil) (fun w hS => ⟨_, rfl, ?_⟩)
  exact ⟨by show Value.int _ _ = _; rw [pw_end], hS.same⟩
  exact fun _ _ _ _ _ _ _ h => h.elim
end Go.Proofs.YtneokajhmonpaaaDoor

namespace Go.Proofs.YtneokajhmonpaaaDoor
open Go Go.RowKit Go.W
set_option maxRecDepth 10000
open Fx

theorem gCheck_c (x : Int) (w : World) (H : Froz) (hz : Fz H w) : CallsR Tryd.prog 66 [.int .i64 x] w fun v w' => v = .int .i64 (if inG x then 0 else 40) ∧ St ⟨w, H, []⟩ H [] w' := by
  refine calls_start Tryd.func66 rfl Tryd.ntmps66 rfl (fun a hF => ?_)
  have hS := St.start w H hz
  have hS0 := hS
  refine c_seq (fun K1 hK1 => ?_)
  refine c_reg ?_
  refine n_q hF hS (q_assign rfl) rfl (fun a hF => ?_)
  refine hK1 _ _ ?_
  refine c_seq (fun K2 hK2 => ?_)
  refine c_seq (fun K3 hK3 => ?_)
  refine c_reg ?_
  refine n_q hF hS (q_move rfl) rfl (fun a hF => ?_)
  refine n_q hF hS (q_lss rfl rfl) rfl (fun a hF => ?_)
  refine n_q hF hS (q_move rfl) rfl (fun a hF => ?_)
  refine spd hF (s := 5) rfl (fun hc5 hF => ?_) (fun hc5 hF => ?_)
  refine n_no hF (b := true) rfl rfl rfl (fun a hF => ?_)
  refine n_no hF (b := true) rfl rfl rfl (fun a hF => ?_)
  refine n_q hF hS (q_pick (b := true) rfl rfl) rfl (fun a hF => ?_)
  refine n_q hF hS (q_move rfl) rfl (fun a hF => ?_)
  refine n_no hF (b := true) rfl rfl rfl (fun a hF => ?_)
  refine n_no hF (b := true) rfl rfl rfl (fun a hF => ?_)
  refine n_no hF (b := true) rfl rfl rfl (fun a hF => ?_)
  refine n_no hF (b := true) rfl rfl rfl (fun a hF => ?_)
  refine n_q hF hS (q_pick (b := true) rfl rfl) rfl (fun a hF => ?_)
  refine hK3 _ _ ?_
  refine c_true hF rfl ?_
  refine c_seq (fun K4 hK4 => ?_)
  refine c_reg ?_
  refine n_q hF hS (q_assign rfl) rfl (fun a hF => ?_)
  refine hK4 _ _ ?_
  refine c_ret ?_
  repeat (first | refine ret_then ?_ | refine ret_blk ?_)
  refine c_ret' (P := Tryd.prog) (fn := Tryd.f66) rfl hF hS (.tmp rfl .nil) ⟨_, rfl, ?_⟩
  refine ⟨?_, hS.same⟩
  rw [inG_lo hc5]; rfl
  refine n_yes hF rfl ?_
  refine n_q hF hS (q_move rfl) rfl (fun a hF => ?_)
  refine n_yes hF rfl ?_
  refine n_q hF hS (q_geq rfl rfl) rfl (fun a hF => ?_)
  refine n_q hF hS (q_pick (b := false) rfl rfl) rfl (fun a hF => ?_)
  refine n_q hF hS (q_move rfl) rfl (fun a hF => ?_)
  refine spd hF (s := 9) rfl (fun hc9 hF => ?_) (fun hc9 hF => ?_)
  refine n_no hF (b := true) rfl rfl rfl (fun a hF => ?_)
  refine n_no hF (b := true) rfl rfl rfl (fun a hF => ?_)
  refine n_no hF (b := true) rfl rfl rfl (fun a hF => ?_)
  refine n_no hF (b := true) rfl rfl rfl (fun a hF => ?_)
  refine n_q hF hS (q_pick (b := true) rfl rfl) rfl (fun a hF => ?_)
  refine hK3 _ _ ?_
  refine c_true hF rfl ?_
  refine c_seq (fun K5 hK5 => ?_)
  refine c_reg ?_
  refine n_q hF hS (q_assign rfl) rfl (fun a hF => ?_)
  refine hK5 _ _ ?_
  refine c_ret ?_
  repeat (first | refine ret_then ?_ | refine ret_blk ?_)
  refine c_ret' (P := Tryd.prog) (fn := Tryd.f66) rfl hF hS (.tmp rfl .nil) ⟨_, rfl, ?_⟩
  refine ⟨?_, hS.same⟩
  rw [inG_hi hc9]; rfl
  refine n_yes hF rfl ?_
  refine n_q hF hS (q_move rfl) rfl (fun a hF => ?_)
  refine n_yes hF rfl ?_
  refine n_q hF hS (q_cv (r := (x.toNat : Int)) Tryd.underlying3 Tryd.underlying160 rfl (by rw [show x = ((x.toNat : Nat) : Int) by omega, wrap_u64]; simp; omega)) rfl (fun a hF => ?_)
  refine n_yes hF rfl ?_
  refine n_l rfl (fun K6 hK6 => l_call en101 hF rfl rfl (power_c x.toNat QN (by omega) (by decide) _ _ hS.fz) (fun v6 w hR a hF => ?_))
  obtain ⟨rfl, hc⟩ := hR
  replace hS := hS.call0 hc
  refine hK6 _ _ ?_
  refine n_yes hF rfl ?_
  refine n_q hF hS (q_neI rfl rfl) rfl (fun a hF => ?_)
  refine n_q hF hS (q_pick (b := false) rfl rfl) rfl (fun a hF => ?_)
  refine hK3 _ _ ?_
  refine spn hF (s := 14) rfl (fun hc14 hF => ?_) (fun hc14 hF => ?_)
  refine c_true hF rfl ?_
  refine c_seq (fun K7 hK7 => ?_)
  refine c_reg ?_
  refine n_q hF hS (q_assign rfl) rfl (fun a hF => ?_)
  refine hK7 _ _ ?_
  refine c_ret ?_
  repeat (first | refine ret_then ?_ | refine ret_blk ?_)
  refine c_ret' (P := Tryd.prog) (fn := Tryd.f66) rfl hF hS (.tmp rfl .nil) ⟨_, rfl, ?_⟩
  refine ⟨?_, hS.same⟩
  rw [inG_mid (by omega) (by omega), decide_eq_false (by omega)]; rfl
  refine c_false hF rfl ?_
  refine wp_skip ?_
  refine hK2 _ _ ?_
  refine c_seq (fun K8 hK8 => ?_)
  refine c_reg ?_
  refine n_q hF hS (q_assign rfl) rfl (fun a hF => ?_)
  refine hK8 _ _ ?_
  refine c_ret ?_
  repeat (first | refine ret_then ?_ | refine ret_blk ?_)
  refine c_ret' (P := Tryd.prog) (fn := Tryd.f66) rfl hF hS (.tmp rfl .nil) ⟨_, rfl, ?_⟩
  refine ⟨?_, hS.same⟩
  rw [inG_mid (by omega) (by omega), decide_eq_true (by omega)]; rfl

theorem gExp_c (x k : Int) (w : World) (H : Froz) (hz : Fz H w) : CallsR Tryd.prog 69 [.int .i64 x, .int .i64 k] w fun v w' => v = .tuple #[.int .i64 (expP x k).1, .int .i64 (expP x k).2] ∧ St ⟨w, H, []⟩ H [] w' := by
  refine calls_start Tryd.func69 rfl Tryd.ntmps69 rfl (fun a hF => ?_)
  have hS := St.start w H hz
  have hS0 := hS
  refine c_seq (fun K1 hK1 => ?_)
  refine c_reg ?_
  refine n_q hF hS (q_assign rfl) rfl (fun a hF => ?_)
  refine n_q hF hS (q_assign rfl) rfl (fun a hF => ?_)
  refine hK1 _ _ ?_
  refine c_seq (fun K2 hK2 => ?_)
  refine c_seq (fun K3 hK3 => ?_)
  refine c_reg ?_
  refine n_q hF hS (q_move rfl) rfl (fun a hF => ?_)
  refine n_l rfl (fun K4 hK4 => l_call en66 hF rfl rfl (gCheck_c _ _ _ hS.fz) (fun v4 w hR a hF => ?_))
  obtain ⟨rfl, hc⟩ := hR
  replace hS := hS.call0 hc
  refine hK4 _ _ ?_
  refine n_q hF hS (q_assign rfl) rfl (fun a hF => ?_)
  refine hK3 _ _ ?_
  refine c_seq (fun K5 hK5 => ?_)
  refine c_reg ?_
  refine n_q hF hS (q_move rfl) rfl (fun a hF => ?_)
  have hgg : (if inG x = true then (0 : Int) else 40) = if inG x = true then (0 : Int) else 40 := rfl
  refine n_q hF hS (q_neI rfl rfl) rfl (fun a hF => ?_)
  refine hK5 _ _ ?_
  refine spn hF (s := 10) rfl (fun hc10 hF => ?_) (fun hc10 hF => ?_)
  refine c_true hF rfl ?_
  refine c_seq (fun K6 hK6 => ?_)
  refine c_reg ?_
  have hin : inG x = false := by simpa using hc10
  refine n_q hF hS (q_move rfl) rfl (fun a hF => ?_)
  refine n_q hF hS (q_assign rfl) rfl (fun a hF => ?_)
  refine n_q hF hS (q_assign rfl) rfl (fun a hF => ?_)
  refine hK6 _ _ ?_
  refine c_ret ?_
  repeat (first | refine ret_then ?_ | refine ret_blk ?_)
  refine c_ret' (P := Tryd.prog) (fn := Tryd.f69) rfl hF hS (.tmp rfl (.tmp rfl .nil)) ⟨_, rfl, ?_⟩
  refine ⟨?_, hS.same⟩
  rw [show expP x k = (0, 40) by simp [expP_def, hin]]
  show Value.tuple #[_, .int .i64 (if inG x = true then 0 else 40)] = _
  rw [hin]; rfl
  refine c_false hF rfl ?_
  refine wp_skip ?_
  refine hK2 _ _ ?_
  refine c_seq (fun K7 hK7 => ?_)
  refine c_seq (fun K8 hK8 => ?_)
  refine c_reg ?_
  have hin : inG x = true := by simpa using hc10
  refine n_q hF hS (q_move rfl) rfl (fun a hF => ?_)
  refine n_q hF hS (q_lss rfl rfl) rfl (fun a hF => ?_)
  refine n_q hF hS (q_move rfl) rfl (fun a hF => ?_)
  refine spd hF (s := 14) rfl (fun hc14 hF => ?_) (fun hc14 hF => ?_)
  refine n_no hF (b := true) rfl rfl rfl (fun a hF => ?_)
  refine n_no hF (b := true) rfl rfl rfl (fun a hF => ?_)
  refine n_q hF hS (q_pick (b := true) rfl rfl) rfl (fun a hF => ?_)
  refine hK8 _ _ ?_
  refine c_true hF rfl ?_
  refine c_seq (fun K9 hK9 => ?_)
  refine c_reg ?_
  refine n_q hF hS (q_assign rfl) rfl (fun a hF => ?_)
  refine n_q hF hS (q_assign rfl) rfl (fun a hF => ?_)
  refine hK9 _ _ ?_
  refine c_ret ?_
  repeat (first | refine ret_then ?_ | refine ret_blk ?_)
  refine c_ret' (P := Tryd.prog) (fn := Tryd.f69) rfl hF hS (.tmp rfl (.tmp rfl .nil)) ⟨_, rfl, ?_⟩
  refine ⟨?_, hS.same⟩
  rw [show expP x k = (0, 1) by rw [expP_def, if_pos hin, if_neg (by omega)]]; rfl
  refine n_yes hF rfl ?_
  refine n_q hF hS (q_move rfl) rfl (fun a hF => ?_)
  refine n_yes hF rfl ?_
  refine n_q hF hS (q_geq rfl rfl) rfl (fun a hF => ?_)
  refine n_q hF hS (q_pick (b := false) rfl rfl) rfl (fun a hF => ?_)
  refine hK8 _ _ ?_
  refine spd hF (s := 17) rfl (fun hc17 hF => ?_) (fun hc17 hF => ?_)
  refine c_true hF rfl ?_
  refine c_seq (fun K10 hK10 => ?_)
  refine c_reg ?_
  refine n_q hF hS (q_assign rfl) rfl (fun a hF => ?_)
  refine n_q hF hS (q_assign rfl) rfl (fun a hF => ?_)
  refine hK10 _ _ ?_
  refine c_ret ?_
  repeat (first | refine ret_then ?_ | refine ret_blk ?_)
  refine c_ret' (P := Tryd.prog) (fn := Tryd.f69) rfl hF hS (.tmp rfl (.tmp rfl .nil)) ⟨_, rfl, ?_⟩
  refine ⟨?_, hS.same⟩
  rw [show expP x k = (0, 1) by rw [expP_def, if_pos hin, if_neg (by omega)]]; rfl
  refine c_false hF rfl ?_
  refine wp_skip ?_
  refine hK7 _ _ ?_
  refine c_seq (fun K11 hK11 => ?_)
  refine c_reg ?_
  have hx := inG_range hin
  have hk0 : 0 ≤ k ∧ k < 2305843009213688669 := by omega
  have hpl := pw_lt x.toNat k.toNat
  refine n_q hF hS (q_move rfl) rfl (fun a hF => ?_)
  refine n_q hF hS (q_cv (r := (x.toNat : Int)) Tryd.underlying3 Tryd.underlying160 rfl (by rw [show x = ((x.toNat : Nat) : Int) by omega, wrap_u64]; simp; omega)) rfl (fun a hF => ?_)
  refine n_q hF hS (q_move rfl) rfl (fun a hF => ?_)
  refine n_q hF hS (q_cv (r := (k.toNat : Int)) Tryd.underlying3 Tryd.underlying160 rfl (by rw [show k = ((k.toNat : Nat) : Int) by omega, wrap_u64]; simp; omega)) rfl (fun a hF => ?_)
  refine n_l rfl (fun K12 hK12 => l_call en101 hF rfl rfl (power_c x.toNat k.toNat (by omega) (by omega) _ _ hS.fz) (fun v12 w hR a hF => ?_))
  obtain ⟨rfl, hc⟩ := hR
  replace hS := hS.call0 hc
  refine hK12 _ _ ?_
  refine n_q hF hS (q_cvI Tryd.underlying160 Tryd.underlying3 rfl (by have : PN = 4611686018427377339 := rfl; omega)) rfl (fun a hF => ?_)
  refine n_q hF hS (q_assign rfl) rfl (fun a hF => ?_)
  refine n_q hF hS (q_assign rfl) rfl (fun a hF => ?_)
  refine hK11 _ _ ?_
  refine c_ret ?_
  repeat (first | refine ret_then ?_ | refine ret_blk ?_)
  refine c_ret' (P := Tryd.prog) (fn := Tryd.f69) rfl hF hS (.tmp rfl (.tmp rfl .nil)) ⟨_, rfl, ?_⟩
  refine ⟨?_, hS.same⟩
  rw [show expP x k = ((pw x.toNat k.toNat : Int), 0) by rw [expP_def, if_pos hin, if_pos hk0]]; rfl

theorem gBase_c (k : Int) (w : World) (H : Froz) (hz : Fz H w) : CallsR Tryd.prog 68 [.int .i64 k] w fun v w' => v = .tuple #[.int .i64 (baseP k).1, .int .i64 (baseP k).2] ∧ St ⟨w, H, []⟩ H [] w' := by
  refine calls_start Tryd.func68 rfl Tryd.ntmps68 rfl (fun a hF => ?_)
  have hS := St.start w H hz
  have hS0 := hS
  refine c_seq (fun K1 hK1 => ?_)
  refine c_reg ?_
  refine n_q hF hS (q_assign rfl) rfl (fun a hF => ?_)
  refine n_q hF hS (q_assign rfl) rfl (fun a hF => ?_)
  refine hK1 _ _ ?_
  refine c_seq (fun K2 hK2 => ?_)
  refine c_reg ?_
  refine n_q hF hS (q_move rfl) rfl (fun a hF => ?_)
  refine n_l rfl (fun K3 hK3 => l_call en69 hF rfl rfl (gExp_c 4 k _ _ hS.fz) (fun v3 w hR a hF => ?_))
  obtain ⟨rfl, hc⟩ := hR
  replace hS := hS.call0 hc
  refine hK3 _ _ ?_
  refine n_q hF hS (q_extract (i := 0) rfl rfl) rfl (fun a hF => ?_)
  refine n_q hF hS (q_extract (i := 1) rfl rfl) rfl (fun a hF => ?_)
  refine n_q hF hS (q_assign rfl) rfl (fun a hF => ?_)
  refine n_q hF hS (q_assign rfl) rfl (fun a hF => ?_)
  refine hK2 _ _ ?_
  refine c_ret ?_
  repeat (first | refine ret_then ?_ | refine ret_blk ?_)
  refine c_ret' (P := Tryd.prog) (fn := Tryd.f68) rfl hF hS (.tmp rfl (.tmp rfl .nil)) ⟨_, rfl, ?_⟩
  refine ⟨?_, hS.same⟩
  rw [← expP_base]; rfl

theorem gMul_c (x y : Int) (w : World) (H : Froz) (hz : Fz H w) : CallsR Tryd.prog 71 [.int .i64 x, .int .i64 y] w fun v w' => v = .tuple #[.int .i64 (mulP x y).1, .int .i64 (mulP x y).2] ∧ St ⟨w, H, []⟩ H [] w' := by
  refine calls_start Tryd.func71 rfl Tryd.ntmps71 rfl (fun a hF => ?_)
  have hS := St.start w H hz
  have hS0 := hS
  refine c_seq (fun K1 hK1 => ?_)
  refine c_reg ?_
  refine n_q hF hS (q_assign rfl) rfl (fun a hF => ?_)
  refine n_q hF hS (q_assign rfl) rfl (fun a hF => ?_)
  refine hK1 _ _ ?_
  refine c_seq (fun K2 hK2 => ?_)
  refine c_seq (fun K3 hK3 => ?_)
  refine c_reg ?_
  refine n_q hF hS (q_move rfl) rfl (fun a hF => ?_)
  refine n_q hF hS (q_move rfl) rfl (fun a hF => ?_)
  refine n_q hF hS (q_buildA (cs := [_, _]) Tryd.underlying171 ty3 zr171 rfl (by first | rfl | simp [bldA, spl, dc_length, Hd.c_len, En.c_len, List.length_replicate, List.length_cons, List.length_nil, List.length_append])) rfl (fun a hF => ?_)
  refine n_q hF hS (q_move rfl) rfl (fun a hF => ?_)
  refine hK3 _ _ ?_
  refine c_block ?_
  refine c_loopS hF [4, 5, 7, 8, 12, 13, 14, 15, 16, 17, 18, 19, 20]
    (fun k : Nat => [(12, .int .i64 (k : Int))])
    (fun _ => [])
    (fun k _ => k ≤ 2 ∧ (1 ≤ k → inG x = true) ∧ (2 ≤ k → inG y = true))
    (fun k => 2 - k) (0) ⟨rfl, trivial⟩ (hS) (⟨Nat.zero_le _, fun h => absurd h (by decide), fun h => absurd h (by decide)⟩) ?_
  clear hF hS
  intro k a w H hle hF hS hJ
  have hl0 := Le.refl H
  try dsimp only at hF hJ hS
  obtain ⟨hJ0, hJ1, hJ2⟩ := hJ
  refine c_seq (fun K4 hK4 => ?_)
  refine c_reg ?_
  refine n_q hF hS (q_lss rfl rfl) rfl (fun a hF => ?_)
  refine hK4 _ _ ?_
  refine c_seq (fun K5 hK5 => ?_)
  refine spd hF (s := 13) rfl (fun hc13 hF => ?_) (fun hc13 hF => ?_)
  refine c_true hF rfl ?_
  refine wp_skip ?_
  refine hK5 _ _ ?_
  refine c_seq (fun K6 hK6 => ?_)
  refine c_block ?_
  refine c_seq (fun K7 hK7 => ?_)
  refine c_reg ?_
  have hlt : k < 2 := by omega
  obtain ⟨z, hz1⟩ : ∃ z : Int, z = if k = 0 then x else y := ⟨_, rfl⟩
  refine n_q hF hS (q_indexAgg (i := k) (v := .int .i64 z) (cs := [.int .i64 x, .int .i64 y]) Tryd.underlying171 ty3 rfl rfl (by omega) (by rw [hz1]; rcases (show k = 0 ∨ k = 1 by omega) with rfl | rfl <;> rfl)) rfl (fun a hF => ?_)
  refine n_q hF hS (q_assign rfl) rfl (fun a hF => ?_)
  refine hK7 _ _ ?_
  refine c_seq (fun K8 hK8 => ?_)
  refine c_reg ?_
  refine n_q hF hS (q_move rfl) rfl (fun a hF => ?_)
  refine n_l rfl (fun K9 hK9 => l_call en66 hF rfl rfl (gCheck_c _ _ _ hS.fz) (fun v9 w hR a hF => ?_))
  obtain ⟨rfl, hc⟩ := hR
  replace hS := hS.call0 hc
  refine hK9 _ _ ?_
  refine n_q hF hS (q_assign rfl) rfl (fun a hF => ?_)
  refine hK8 _ _ ?_
  refine c_seq (fun K10 hK10 => ?_)
  refine c_reg ?_
  refine n_q hF hS (q_move rfl) rfl (fun a hF => ?_)
  refine n_q hF hS (q_neI rfl rfl) rfl (fun a hF => ?_)
  refine hK10 _ _ ?_
  refine spn hF (s := 18) rfl (fun hc18 hF => ?_) (fun hc18 hF => ?_)
  refine c_true hF rfl ?_
  refine c_seq (fun K11 hK11 => ?_)
  refine c_reg ?_
  have hin : inG z = false := by simpa using hc18
  refine n_q hF hS (q_move rfl) rfl (fun a hF => ?_)
  refine n_q hF hS (q_assign rfl) rfl (fun a hF => ?_)
  refine n_q hF hS (q_assign rfl) rfl (fun a hF => ?_)
  refine hK11 _ _ ?_
  refine c_ret ?_
  repeat (first | refine ret_then ?_ | refine ret_blk ?_)
  refine c_ret' (P := Tryd.prog) (fn := Tryd.f71) rfl hF hS (.tmp rfl (.tmp rfl .nil)) ⟨_, rfl, ?_⟩
  have hn : ¬ (inG x = true ∧ inG y = true) := fun h => by rcases (show k = 0 ∨ k = 1 by omega) with h0 | h0; rw [hz1, if_pos h0, h.1] at hin; cases hin; rw [hz1, if_neg (by omega), h.2] at hin; cases hin
  refine ⟨?_, hS.same⟩
  rw [mulP_def, if_neg hn]
  show Value.tuple #[_, .int .i64 (if inG z = true then 0 else 40)] = _
  rw [hin]; rfl
  refine c_false hF rfl ?_
  refine wp_skip ?_
  refine hK6 _ _ ?_
  refine c_reg ?_
  have hin : inG z = true := by simpa using hc18
  have hN1 : 1 ≤ k + 1 → inG x = true := fun _ => by rcases (show k = 0 ∨ k = 1 by omega) with rfl | rfl; rw [hz1, if_pos rfl] at hin; exact hin; exact hJ1 (Nat.le_refl _)
  have hN2 : 2 ≤ k + 1 → inG y = true := fun h => by rw [hz1, if_neg (by omega)] at hin; exact hin
  refine n_q hF hS (q_addI rfl rfl (by omega)) rfl (fun a hF => ?_)
  refine n_q hF hS (q_move rfl) rfl (fun a hF => ?_)
  exact ⟨k + 1, _, (by show 2 - (k + 1) < 2 - k; omega), hl0, hF.back ⟨rfl, trivial⟩ rfl (by repeat first | exact Ext.refl _ _ | refine Ext.rem' rfl ?_ | refine Ext.push rfl ?_), hS.lose (.refl _), ⟨by omega, hN1, hN2⟩⟩
  refine c_false hF rfl ?_
  refine c_exit ?_
  refine hK2 _ _ ?_
  refine c_seq (fun K12 hK12 => ?_)
  refine c_reg ?_
  have hx := inG_range (hJ1 (by omega))
  have hy := inG_range (hJ2 (by omega))
  have hml : x.toNat * y.toNat % 4611686018427377339 < 4611686018427377339 := Nat.mod_lt _ (by decide)
  refine n_q hF hS (q_move rfl) rfl (fun a hF => ?_)
  refine n_q hF hS (q_cv (r := (x.toNat : Int)) Tryd.underlying3 Tryd.underlying160 rfl (by rw [show x = ((x.toNat : Nat) : Int) by omega, wrap_u64]; simp; omega)) rfl (fun a hF => ?_)
  refine n_q hF hS (q_move rfl) rfl (fun a hF => ?_)
  refine n_q hF hS (q_cv (r := (y.toNat : Int)) Tryd.underlying3 Tryd.underlying160 rfl (by rw [show y = ((y.toNat : Nat) : Int) by omega, wrap_u64]; simp; omega)) rfl (fun a hF => ?_)
  refine n_l rfl (fun K13 hK13 => l_call en104 hF rfl rfl (times_c x.toNat y.toNat (by omega) (by omega) _ _ hS.fz) (fun v13 w hR a hF => ?_))
  obtain ⟨rfl, hc⟩ := hR
  replace hS := hS.call0 hc
  refine hK13 _ _ ?_
  refine n_q hF hS (q_cvI Tryd.underlying160 Tryd.underlying3 rfl (by omega)) rfl (fun a hF => ?_)
  refine n_q hF hS (q_assign rfl) rfl (fun a hF => ?_)
  refine n_q hF hS (q_assign rfl) rfl (fun a hF => ?_)
  refine hK12 _ _ ?_
  refine c_ret ?_
  repeat (first | refine ret_then ?_ | refine ret_blk ?_)
  refine c_ret' (P := Tryd.prog) (fn := Tryd.f71) rfl hF hS (.tmp rfl (.tmp rfl .nil)) ⟨_, rfl, ?_⟩
  refine ⟨?_, hS.same⟩
  rw [mulP_def, if_pos ⟨hJ1 (by omega), hJ2 (by omega)⟩]; rfl

theorem rest1_c (n b m bn bm : Nat) (T : TypeId) (hb : b < 256) (hm : m = 2305843009213688668) (hn : n < m) (w : World) (H : Froz) (hh : Hand w H [⟨bn, [.int .u64 (n : Int)], T⟩]) (hr : HC H bm 0 (.int .u64 (m : Int))) :
    CallsR Tryd.prog 134 [.int .u8 (b : Int), .pointer (some ⟨bn, 0, none⟩), .pointer (some ⟨bm, 0, none⟩)] w fun v w' => v = .tuple #[] ∧ St ⟨w, H, [bn]⟩ H [⟨bn, [.int .u64 (((n * 256 + b) % m : Nat) : Int)], T⟩] w' := by
  refine calls_start Tryd.func134 rfl Tryd.ntmps134 rfl (fun a hF => ?_)
  have hS : St ⟨w, H, [bn]⟩ H [⟨bn, [.int .u64 (n : Int)], T⟩] w := St.startG hh
  have hfw := fold_words (n := n) hb
  refine c_reg ?_
  refine n_q hF hS (q_load ty160 rfl (i := 0) rfl rfl rfl rfl) rfl (fun a hF => ?_)
  refine n_q hF hS (q_shr (s := 56) rfl rfl (by decide)) rfl (fun a hF => ?_)
  refine n_q hF hS (q_load ty160 rfl (i := 0) rfl rfl rfl rfl) rfl (fun a hF => ?_)
  refine n_q hF hS (q_shl (m := 18446744073709551616) (s := 8) rfl rfl rfl rfl (by decide)) rfl (fun a hF => ?_)
  refine n_q hF hS (q_move rfl) rfl (fun a hF => ?_)
  refine n_q hF hS (q_cv64 Tryd.underlying5 Tryd.underlying160 rfl (by omega)) rfl (fun a hF => ?_)
  refine n_q hF hS (q_or (m := 18446744073709551616) rfl rfl rfl rfl (Nat.mod_lt _ (by decide)) (by omega)) rfl (fun a hF => ?_)
  refine n_q hF hS (q_loadG (cs := [.int .u64 (m : Int)]) (v := .int .u64 (m : Int)) ty160 rfl (fun j v hv => by match j, hv with | 0, hv => obtain rfl := Option.some.inj hv; exact hr.h) (Nat.le_refl 1) rfl rfl) rfl (fun a hF => ?_)
  refine n_l rfl (fun K1 hK1 => l_call en124 hF rfl rfl (Div64_c (n / 2 ^ 56) ((n * 2 ^ 8 % 18446744073709551616) ||| b) m (Nat.or_lt_two_pow (n := 64) (Nat.mod_lt _ (by decide)) (by omega)) (by omega) (by omega) _ _ hS.fz) (fun v1 w hR a hF => ?_))
  obtain ⟨rfl, hc⟩ := hR
  replace hS := hS.call0 hc
  refine hK1 _ _ ?_
  refine n_q hF hS (q_move rfl) rfl (fun a hF => ?_)
  refine n_q hF hS (q_extract (i := 0) rfl rfl) rfl (fun a hF => ?_)
  refine n_q hF hS (q_extract (i := 1) rfl rfl) rfl (fun a hF => ?_)
  refine n_l rfl (fun K2 hK2 => l_store (vs := [_]) ty160 hF hS rfl rfl (i := 0) rfl rfl rfl rfl rfl (fun a w hF hS => hK2 _ _ ?_))
  repeat (first | refine ex_then ?_ | refine ex_blk ?_)
  refine c_norm (P := Tryd.prog) (fn := Tryd.f134) rfl hF hS .nil ⟨_, rfl, ?_⟩
  try dsimp only [List.set] at hS
  rw [hfw] at hS
  exact ⟨rfl, hS⟩

theorem rest_c (d : Dg) (w : World) (H : Froz) (hz : Fz H w) :
    CallsR Tryd.prog 122 [.agg (dc d).toArray, .int .u64 2305843009213688668] w fun v w' => v = .int .u64 (restN d.l 2305843009213688668 32 : Int) ∧ St ⟨w, H, []⟩ H [] w' := by
  refine calls_start Tryd.func122 rfl Tryd.ntmps122 rfl (fun a hF => ?_)
  have hS := St.start w H hz
  refine c_seq (fun K1 hK1 => ?_)
  refine c_reg ?_
  refine n_l rfl (fun K2 hK2 => l_boxA hF hS rfl rfl (fun a w b1 hF hS => hK2 _ _ ?_))
  refine n_l rfl (fun K3 hK3 => l_box (cs := [_]) hF hS rfl rfl rfl (fun a w b2 hF hS => hK3 _ _ ?_))
  refine n_l rfl (fun K4 hK4 => l_alloc hF hS zr160 rfl (fun a w b3 hF hS => hK4 _ _ ?_))
  refine hK1 _ _ ?_
  refine c_seq (fun K5 hK5 => ?_)
  refine c_reg ?_
  obtain ⟨H_hfm, hH_hfm, hle_hfm, hS_hfm⟩ := hS.freeze' (i := 1) rfl
  replace hS := hS_hfm
  have hfm : HC H_hfm b2 0 (.int .u64 ((2305843009213688668 : Nat) : Int)) := by rw [hH_hfm]; exact ⟨by simp [hcell, frz]⟩
  refine n_q hF hS (q_makeFunc rfl rfl) rfl (fun a hF => ?_)
  refine n_q hF hS (q_assign rfl) rfl (fun a hF => ?_)
  refine hK5 _ _ ?_
  refine c_seq (fun K6 hK6 => ?_)
  refine c_seq (fun K7 hK7 => ?_)
  refine c_reg ?_
  refine n_q hF hS (q_load0 ty35 rfl (i := 1) rfl (by simp [dc_length, Hd.c_len, En.c_len, List.length_replicate, List.length_cons, List.length_nil, List.length_append]) rfl) rfl (fun a hF => ?_)
  refine n_q hF hS (q_move rfl) rfl (fun a hF => ?_)
  refine hK7 _ _ ?_
  refine c_block ?_
  refine c_loopL hF [7, 10, 11, 12, 13, 14, 15, 16]
    (fun k : Nat => [(10, .int .i64 (k : Int))])
    (fun k => [⟨b3, [.int .u64 (restN d.l 2305843009213688668 k : Int)], 160⟩, ⟨b1, dc d, 35⟩])
    (fun k _ => k ≤ 32)
    (fun k => 32 - k) (0) ⟨rfl, trivial⟩ (hS) (Nat.zero_le _) ?_
  clear hF hS
  intro k a w H hle hF hS hJ
  replace hfm := hfm.mono hle
  have hl0 := Le.refl H
  try dsimp only at hF hJ hS
  refine c_seq (fun K8 hK8 => ?_)
  refine c_reg ?_
  skip
  refine n_q hF hS (q_lss rfl rfl) rfl (fun a hF => ?_)
  refine hK8 _ _ ?_
  refine c_seq (fun K9 hK9 => ?_)
  refine spd hF (s := 11) rfl (fun hc11 hF => ?_) (fun hc11 hF => ?_)
  refine c_true hF rfl ?_
  refine wp_skip ?_
  refine hK9 _ _ ?_
  refine c_seq (fun K10 hK10 => ?_)
  refine c_block ?_
  refine c_seq (fun K11 hK11 => ?_)
  refine c_reg ?_
  refine n_q hF hS (q_indexAgg (i := k) (v := .int .u8 (gt (bn d.l) k : Int)) (cs := dc d) Tryd.underlying35 ty5 rfl rfl (by omega) (by rw [Nat.mul_one]; simp only [ldv, cond_false]; exact bc_getn (by rw [d.h]; omega))) rfl (fun a hF => ?_)
  refine n_q hF hS (q_assign rfl) rfl (fun a hF => ?_)
  refine hK11 _ _ ?_
  refine c_reg ?_
  refine n_q hF hS (q_move rfl) rfl (fun a hF => ?_)
  refine n_q hF hS (q_move rfl) rfl (fun a hF => ?_)
  refine n_l rfl (fun K12 hK12 => l_callv en134 hF rfl rfl rfl (rest1_c (restN d.l 2305843009213688668 k) (gt (bn d.l) k) 2305843009213688668 b3 b2 _ (gt_bn_lt _ _) rfl (restN_lt (by decide)) _ _ (hS.hand1 (i := 0) rfl) hfm) (fun v12 w hR a hF => ?_))
  obtain ⟨rfl, hc⟩ := hR
  replace hS := hS.callM (i := 0) (L' := []) rfl hc
  refine hK12 _ _ ?_
  refine hK10 _ _ ?_
  refine c_reg ?_
  refine n_q hF hS (q_addI rfl rfl (by omega)) rfl (fun a hF => ?_)
  refine n_q hF hS (q_move rfl) rfl (fun a hF => ?_)
  exact ⟨k + 1, _, (by show 32 - (k + 1) < 32 - k; omega), hl0, hF.back ⟨rfl, trivial⟩ rfl (by repeat first | exact Ext.refl _ _ | refine Ext.rem' rfl ?_ | refine Ext.push rfl ?_), (by rw [restN_succ (by rw [d.h]; omega)]; exact hS), (by omega)⟩
  refine c_false hF rfl ?_
  refine c_exit ?_
  refine hK6 _ _ ?_
  refine c_seq (fun K13 hK13 => ?_)
  refine c_reg ?_
  refine n_q hF hS (q_load ty160 rfl (i := 0) rfl rfl rfl rfl) rfl (fun a hF => ?_)
  refine n_l rfl (fun K14 hK14 => l_store (vs := [_]) ty160 hF hS rfl rfl (i := 0) rfl rfl rfl rfl rfl (fun a w hF hS => hK14 _ _ ?_))
  refine hK13 _ _ ?_
  refine c_ret ?_
  repeat (first | refine ret_then ?_ | refine ret_blk ?_)
  refine c_ret' (P := Tryd.prog) (fn := Tryd.f122) rfl hF hS (.cell rfl ty160 (i := 0) rfl rfl rfl rfl .nil) ⟨_, rfl, ?_⟩
  exact ⟨by show Value.int _ _ = _; rw [show k = 32 by omega], hS.same⟩

theorem Scalar_c (s : ByteArray) (bs : List UInt8) (a0 : Option Addr) (n c : Nat) (hs : s.data.toList.length ≤ 1000) (hn : n ≤ 1099511000000) (hc0 : n ≤ c) (w : World) (H : Froz) (hz : Fz H w) (hg : Gl 0 1 H) (hr : RdS H a0 n 1 (bc bs)) :
    CallsR Tryd.prog 103 [.string s, .slice a0 n c] w fun v w' => v = .int .i64 (scalarN s.data.toList bs : Int) ∧ St ⟨w, H, []⟩ H [] w' := by
  refine calls_start Tryd.func103 rfl Tryd.ntmps103 rfl (fun a hF => ?_)
  have hS := St.start w H hz
  have hsr := scalarN_range s.data.toList bs
  have hsd : scalarN s.data.toList bs = 1 + restN (tagged s.data.toList bs).l 2305843009213688668 32 := rfl
  refine c_seq (fun K1 hK1 => ?_)
  refine c_reg ?_
  refine n_q hF hS (q_assign rfl) rfl (fun a hF => ?_)
  refine hK1 _ _ ?_
  refine c_seq (fun K2 hK2 => ?_)
  refine c_reg ?_
  refine n_q hF hS (q_move rfl) rfl (fun a hF => ?_)
  refine n_q hF hS (q_move rfl) rfl (fun a hF => ?_)
  refine n_l rfl (fun K3 hK3 => l_call en26 hF rfl rfl (Tagged_c s bs a0 n c hs hn hc0 _ _ hS.fz hg hr) (fun v3 w hR a hF => ?_))
  obtain ⟨rfl, hc⟩ := hR
  replace hS := hS.call0 hc
  refine hK3 _ _ ?_
  refine n_l rfl (fun K4 hK4 => l_call en122 hF rfl rfl (rest_c _ _ _ hS.fz) (fun v4 w hR a hF => ?_))
  obtain ⟨rfl, hc⟩ := hR
  replace hS := hS.call0 hc
  refine hK4 _ _ ?_
  refine n_q hF hS (q_cvI Tryd.underlying160 Tryd.underlying3 rfl (by have : QN = 2305843009213688669 := rfl; omega)) rfl (fun a hF => ?_)
  refine n_q hF hS (q_addI rfl rfl (by have : QN = 2305843009213688669 := rfl; omega)) rfl (fun a hF => ?_)
  refine n_q hF hS (q_assign rfl) rfl (fun a hF => ?_)
  refine hK2 _ _ ?_
  refine c_ret ?_
  repeat (first | refine ret_then ?_ | refine ret_blk ?_)
  refine c_ret' (P := Tryd.prog) (fn := Tryd.f103) rfl hF hS (.tmp rfl .nil) ⟨_, rfl, ?_⟩
  exact ⟨by show Value.int _ _ = _; rw [hsd]; push_cast; rfl, hS.same⟩
end Go.Proofs.YtneokajhmonpaaaDoor

namespace Go.Proofs.YtneokajhmonpaaaDoor
open Go Go.RowKit Go.W
set_option maxRecDepth 10000
open Fx

theorem hash_c (s : ByteArray) (t : List UInt8) (ht : s.data.toList = t) (msg : List UInt8) (am : Option Addr) (nm cm : Nat) (ns : List Int) (an : Option Addr) (cn : Nat) (hs : s.data.toList.length ≤ 1000) (hn : nm ≤ 1099510000000) (hc0 : nm ≤ cm) (hns : ns.length ≤ 1000) (w : World) (H : Froz) (hz : Fz H w) (hg : Gl 0 1 H) (hr : RdS H am nm 1 (bc msg)) (hrn : RdL H an 1 (ns.map (fun x : Int => [Value.int .i64 x]))) :
    CallsR Tryd.prog 70 [.string s, .slice am nm cm, .slice an ns.length cn] w fun v w' => v = .int .i64 (hashN t msg ns : Int) ∧ St ⟨w, H, []⟩ H [] w' := by
  refine calls_start Tryd.func70 rfl Tryd.ntmps70 rfl (fun a hF => ?_)
  have hS := St.start w H hz
  subst ht
  refine c_seq (fun K1 hK1 => ?_)
  refine c_reg ?_
  refine n_q hF hS (q_assign rfl) rfl (fun a hF => ?_)
  refine hK1 _ _ ?_
  refine c_seq (fun K2 hK2 => ?_)
  refine c_reg ?_
  refine n_q hF hS (q_assign rfl) rfl (fun a hF => ?_)
  refine hK2 _ _ ?_
  refine c_seq (fun K3 hK3 => ?_)
  refine c_seq (fun K4 hK4 => ?_)
  refine c_reg ?_
  refine n_q hF hS (q_move rfl) rfl (fun a hF => ?_)
  refine n_q hF hS (q_len Tryd.underlying169 rfl rfl) rfl (fun a hF => ?_)
  refine n_q hF hS (q_move rfl) rfl (fun a hF => ?_)
  refine hK4 _ _ ?_
  refine c_block ?_
  refine c_loopL hF [7, 9, 10, 13, 14, 15, 16, 17, 18, 19, 20, 21, 22, 23, 24, 25, 26, 27, 28, 29]
    (fun g : Nat × Option Addr × Nat × List Blk => [(7, .slice g.2.1 (8 * g.1) g.2.2.1), (13, .int .i64 (g.1 : Int))])
    (fun g => g.2.2.2 ++ [])
    (fun g _ => g.1 ≤ ns.length ∧ OwS 5 1 (.slice g.2.1 (8 * g.1) g.2.2.1) (8 * g.1) (bc (bes ns g.1)) g.2.2.2)
    (fun g => ns.length - g.1) ((0, none, 0, [])) ⟨rfl, rfl, trivial⟩ (hS) (⟨Nat.zero_le _, .nil⟩) ?_
  clear hF hS
  intro g a w H hle hF hS hJ
  replace hr := hr.mono hle
  replace hg := hg.mono hle
  replace hrn := hrn.mono hle
  have hl0 := Le.refl H
  obtain ⟨k, ad, cp, Lx⟩ := g
  obtain ⟨hk, hO⟩ := hJ
  try dsimp only at hF hS hk hO
  refine c_seq (fun K5 hK5 => ?_)
  refine c_reg ?_
  refine n_q hF hS (q_lss rfl rfl) rfl (fun a hF => ?_)
  refine hK5 _ _ ?_
  refine c_seq (fun K6 hK6 => ?_)
  refine spd hF (s := 14) rfl (fun hc14 hF => ?_) (fun hc14 hF => ?_)
  refine c_true hF rfl ?_
  refine wp_skip ?_
  refine hK6 _ _ ?_
  refine c_seq (fun K7 hK7 => ?_)
  refine c_block ?_
  refine c_seq (fun K8 hK8 => ?_)
  refine c_reg ?_
  have hlt : k < ns.length := by omega
  have hel : (ns.map (fun x : Int => [Value.int .i64 x]))[k]? = some [Value.int .i64 ns[k]] := by simp [hlt]
  refine n_q hF hS (q_indexAddrS Tryd.underlying169 ty3 rfl rfl (by omega) (hrn.some (by simp; omega))) rfl (fun a hF => ?_)
  refine n_q hF hS (q_loadL0 ty3 rfl hrn hel (by decide) rfl rfl) rfl (fun a hF => ?_)
  refine n_q hF hS (q_assign rfl) rfl (fun a hF => ?_)
  refine hK8 _ _ ?_
  refine c_seq (fun K9 hK9 => ?_)
  refine c_reg ?_
  refine n_q hF hS (q_assign rfl) rfl (fun a hF => ?_)
  refine hK9 _ _ ?_
  refine c_block ?_
  refine c_loopL hF [7, 10, 17, 18, 19, 20, 21, 22, 23, 24, 25, 26, 27, 28]
    (fun g : Nat × Option Addr × Nat × List Blk => [(7, .slice g.2.1 (8 * k + g.1) g.2.2.1), (10, .int .i64 (56 - 8 * (g.1 : Int)))])
    (fun g => g.2.2.2 ++ [])
    (fun g _ => g.1 ≤ 8 ∧ OwS 5 1 (.slice g.2.1 (8 * k + g.1) g.2.2.1) (8 * k + g.1) (bc (bes ns k ++ (beB 8 (u64N ns[k])).take g.1)) g.2.2.2)
    (fun g => 8 - g.1) ((0, ad, cp, Lx)) ⟨rfl, rfl, trivial⟩ (hS) (⟨Nat.zero_le _, by simpa using hO⟩) ?_
  clear hF hS
  intro g a w H hle hF hS hJ
  replace hr := hr.mono hle
  replace hg := hg.mono hle
  replace hrn := hrn.mono hle
  replace hl0 := hl0.mono hle
  have hl1 := Le.refl H
  clear hO
  obtain ⟨j, ad, cp, Lx⟩ := g
  obtain ⟨hj, hO⟩ := hJ
  try dsimp only at hF hS hj hO
  refine c_seq (fun K10 hK10 => ?_)
  refine c_seq (fun K11 hK11 => ?_)
  refine c_reg ?_
  refine n_q hF hS (q_move rfl) rfl (fun a hF => ?_)
  refine n_q hF hS (q_geq rfl rfl) rfl (fun a hF => ?_)
  refine hK11 _ _ ?_
  refine spd hF (s := 18) rfl (fun hc18 hF => ?_) (fun hc18 hF => ?_)
  refine c_true hF rfl ?_
  refine wp_skip ?_
  refine hK10 _ _ ?_
  refine c_seq (fun K12 hK12 => ?_)
  refine c_block ?_
  refine c_reg ?_
  have hjl : j < 8 := by omega
  refine rw_ hF (s := 10) (u := .int .i64 ((56 - 8 * j : Nat) : Int)) rfl (by rw [show (56 : Int) - 8 * (j : Int) = ((56 - 8 * j : Nat) : Int) by omega]) (fun hF => ?_)
  refine n_q hF hS (q_move rfl) rfl (fun a hF => ?_)
  refine n_q hF hS (q_move rfl) rfl (fun a hF => ?_)
  refine n_q hF hS (q_cv (r := (u64N ns[k] : Int)) Tryd.underlying3 Tryd.underlying160 rfl (wrap_u64N _)) rfl (fun a hF => ?_)
  refine n_q hF hS (q_move rfl) rfl (fun a hF => ?_)
  refine n_q hF hS (q_shr (s := 56 - 8 * j) rfl rfl (show 56 - 8 * j ≤ 64 by omega)) rfl (fun a hF => ?_)
  refine n_q hF hS (q_cv8 Tryd.underlying160 Tryd.underlying5 rfl) rfl (fun a hF => ?_)
  refine n_l rfl (fun K13 hK13 => l_buildF (els := [[_]]) Tryd.underlying46 ty5 zr5 hF hS rfl rfl rfl (by simp [Value.cells, dc_length, Hd.c_len, En.c_len, List.length_replicate, List.length_cons, List.length_nil, List.length_append]) rfl rfl rfl (fun a w b1 hF hle hS r8_6 => ?_))
  replace hr := hr.mono hle
  replace hg := hg.mono hle
  replace hrn := hrn.mono hle
  replace hl0 := hl0.mono hle
  replace hl1 := hl1.mono hle
  refine hK13 _ _ ?_
  refine n_l rfl (fun K14 hK14 => l_append (L := []) Tryd.underlying46 ty5 zr5 bt5 hF hS rfl rfl (hO) (.slice Tryd.underlying46 r8_6.rd rfl) (by omega) (by simp only [maxLen]; omega) rfl rfl (fun a w c8_7 ad8_7 Lx8_7 ho8_7 hF hS => hK14 _ _ ?_))
  rw [show [[Value.int .u8 ((u64N ns[k] / 2 ^ (56 - 8 * j) % 256 : Nat) : Int)]].flatten = bc [UInt8.ofNat (u64N ns[k] / 2 ^ (56 - 8 * j))] by simp [bc], ← bc_append, List.append_assoc, ← beB_take_succ _ _ hjl] at ho8_7
  refine n_q hF hS (q_assign rfl) rfl (fun a hF => ?_)
  refine hK12 _ _ ?_
  refine c_reg ?_
  refine n_q hF hS (q_move rfl) rfl (fun a hF => ?_)
  refine n_q hF hS (q_subI rfl rfl (by omega)) rfl (fun a hF => ?_)
  refine n_q hF hS (q_assign rfl) rfl (fun a hF => ?_)
  exact ⟨(j + 1, ad8_7, c8_7, Lx8_7), _, (by show 8 - (j + 1) < 8 - j; omega), hl1, hF.back ⟨rfl, by show some (Value.int _ (((56 - 8 * j : Nat) : Int) - 8)) = some (Value.int _ (56 - 8 * ((j + 1 : Nat) : Int))); rw [show ((56 - 8 * j : Nat) : Int) - 8 = 56 - 8 * ((j + 1 : Nat) : Int) by omega], trivial⟩ rfl (by repeat first | exact Ext.refl _ _ | refine Ext.rem' rfl ?_ | refine Ext.push rfl ?_), hS.lose (.refl _), ⟨by show j + 1 ≤ 8; omega, ho8_7⟩⟩
  refine c_false hF rfl ?_
  refine c_exit ?_
  refine hK7 _ _ ?_
  refine c_reg ?_
  refine n_q hF hS (q_addI rfl rfl (by omega)) rfl (fun a hF => ?_)
  refine n_q hF hS (q_move rfl) rfl (fun a hF => ?_)
  exact ⟨(k + 1, ad, cp, Lx), _, (by show ns.length - (k + 1) < ns.length - k; omega), hl0, hF.back ⟨by show some (Value.slice ad (8 * k + j) cp) = some (Value.slice ad (8 * (k + 1)) cp); rw [show 8 * (k + 1) = 8 * k + j by omega], rfl, trivial⟩ rfl (by repeat first | exact Ext.refl _ _ | refine Ext.rem' rfl ?_ | refine Ext.push rfl ?_), hS.lose (.refl _), ⟨by show k + 1 ≤ ns.length; omega, by rw [show j = 8 by omega, List.take_of_length_le (by rw [beB_length]; exact Nat.le_refl _)] at hO; show OwS _ _ (.slice ad (8 * (k + 1)) cp) (8 * (k + 1)) _ _; rw [bes_succ hlt, show 8 * (k + 1) = 8 * k + 8 by omega]; exact hO⟩⟩
  refine c_false hF rfl ?_
  refine c_exit ?_
  refine hK3 _ _ ?_
  refine c_seq (fun K15 hK15 => ?_)
  refine c_reg ?_
  have hkl : k = ns.length := by omega
  subst hkl
  refine n_q hF hS (q_move rfl) rfl (fun a hF => ?_)
  refine n_q hF hS (q_move rfl) rfl (fun a hF => ?_)
  refine n_q hF hS (q_move rfl) rfl (fun a hF => ?_)
  refine n_l rfl (fun K16 hK16 => l_append (L := []) Tryd.underlying46 ty5 zr5 bt5 hF hS rfl rfl (hO) (.slice Tryd.underlying46 hr (bc_all1 _)) (by omega) (by simp only [maxLen]; omega) rfl rfl (fun a w c10_3 ad10_3 Lx10_3 ho10_3 hF hS => hK16 _ _ ?_))
  obtain ⟨H4, hle4, hS4, hr4⟩ := ho10_3.freeze hS
  have hcp := ho10_3.le
  replace hS := hS4
  replace hg := hg.mono hle4
  rw [← bc_append] at hr4
  refine n_l rfl (fun K17 hK17 => l_call en103 hF rfl rfl (Scalar_c s (bes ns ns.length ++ msg) _ _ _ hs (by omega) hcp _ _ hS.fz hg hr4) (fun v17 w hR a hF => ?_))
  obtain ⟨rfl, hc⟩ := hR
  replace hS := hS.call0 hc
  refine hK17 _ _ ?_
  refine n_q hF hS (q_assign rfl) rfl (fun a hF => ?_)
  refine hK15 _ _ ?_
  refine c_ret ?_
  repeat (first | refine ret_then ?_ | refine ret_blk ?_)
  refine c_ret' (P := Tryd.prog) (fn := Tryd.f70) rfl hF hS (.tmp rfl .nil) ⟨_, rfl, ?_⟩
  exact ⟨by show Value.int _ _ = _; rw [hashN_def], hS.same⟩

theorem public_c (x : Int) (w : World) (H : Froz) (hz : Fz H w) : CallsR Tryd.prog 54 [.int .i64 x] w fun v w' => v = .int .i64 (baseP x).1 ∧ St ⟨w, H, []⟩ H [] w' := by
  refine calls_start Tryd.func54 rfl Tryd.ntmps54 rfl (fun a hF => ?_)
  have hS := St.start w H hz
  have hS0 := hS
  refine c_seq (fun K1 hK1 => ?_)
  refine c_reg ?_
  refine n_q hF hS (q_assign rfl) rfl (fun a hF => ?_)
  refine hK1 _ _ ?_
  refine c_seq (fun K2 hK2 => ?_)
  refine c_reg ?_
  refine n_q hF hS (q_move rfl) rfl (fun a hF => ?_)
  refine n_l rfl (fun K3 hK3 => l_call en68 hF rfl rfl (gBase_c _ _ _ hS.fz) (fun v3 w hR a hF => ?_))
  obtain ⟨rfl, hc⟩ := hR
  replace hS := hS.call0 hc
  refine hK3 _ _ ?_
  refine n_q hF hS (q_move rfl) rfl (fun a hF => ?_)
  refine n_q hF hS (q_extract (i := 0) rfl rfl) rfl (fun a hF => ?_)
  refine n_q hF hS (q_extract (i := 1) rfl rfl) rfl (fun a hF => ?_)
  refine n_q hF hS (q_assign rfl) rfl (fun a hF => ?_)
  refine n_q hF hS (q_assign rfl) rfl (fun a hF => ?_)
  refine hK2 _ _ ?_
  refine c_seq (fun K4 hK4 => ?_)
  refine c_reg ?_
  refine n_q hF hS (q_move rfl) rfl (fun a hF => ?_)
  refine n_q hF hS (q_assign rfl) rfl (fun a hF => ?_)
  refine hK4 _ _ ?_
  refine c_ret ?_
  repeat (first | refine ret_then ?_ | refine ret_blk ?_)
  refine c_ret' (P := Tryd.prog) (fn := Tryd.f54) rfl hF hS (.tmp rfl .nil) ⟨_, rfl, ?_⟩
  exact ⟨rfl, hS.same⟩

theorem Public_c (x : Int) (w : World) (H : Froz) (hz : Fz H w) : CallsR Tryd.prog 16 [.int .i64 x] w fun v w' => v = .tuple #[.int .i64 (pubP x).1, .int .i64 (pubP x).2] ∧ St ⟨w, H, []⟩ H [] w' := by
  refine calls_start Tryd.func16 rfl Tryd.ntmps16 rfl (fun a hF => ?_)
  have hS := St.start w H hz
  have hS0 := hS
  refine c_seq (fun K1 hK1 => ?_)
  refine c_reg ?_
  refine n_q hF hS (q_assign rfl) rfl (fun a hF => ?_)
  refine n_q hF hS (q_assign rfl) rfl (fun a hF => ?_)
  refine hK1 _ _ ?_
  refine c_seq (fun K2 hK2 => ?_)
  refine c_seq (fun K3 hK3 => ?_)
  refine c_reg ?_
  refine n_q hF hS (q_move rfl) rfl (fun a hF => ?_)
  refine n_l rfl (fun K4 hK4 => l_call en53 hF rfl rfl (valid_c x _ _ hS.fz) (fun v4 w hR a hF => ?_))
  obtain ⟨rfl, hc⟩ := hR
  replace hS := hS.call0 hc
  refine hK4 _ _ ?_
  refine n_q hF hS (q_not rfl) rfl (fun a hF => ?_)
  refine hK3 _ _ ?_
  refine spn hF (s := 6) rfl (fun hc6 hF => ?_) (fun hc6 hF => ?_)
  refine c_true hF rfl ?_
  refine c_seq (fun K5 hK5 => ?_)
  refine c_reg ?_
  refine n_q hF hS (q_assign rfl) rfl (fun a hF => ?_)
  refine n_q hF hS (q_assign rfl) rfl (fun a hF => ?_)
  refine hK5 _ _ ?_
  refine c_ret ?_
  repeat (first | refine ret_then ?_ | refine ret_blk ?_)
  refine c_ret' (P := Tryd.prog) (fn := Tryd.f16) rfl hF hS (.tmp rfl (.tmp rfl .nil)) ⟨_, rfl, ?_⟩
  refine ⟨?_, hS.same⟩
  rw [pubP_no hc6]; rfl
  refine c_false hF rfl ?_
  refine wp_skip ?_
  refine hK2 _ _ ?_
  refine c_seq (fun K6 hK6 => ?_)
  refine c_reg ?_
  refine n_q hF hS (q_move rfl) rfl (fun a hF => ?_)
  refine n_l rfl (fun K7 hK7 => l_call en54 hF rfl rfl (public_c _ _ _ hS.fz) (fun v7 w hR a hF => ?_))
  obtain ⟨rfl, hc⟩ := hR
  replace hS := hS.call0 hc
  refine hK7 _ _ ?_
  refine n_q hF hS (q_assign rfl) rfl (fun a hF => ?_)
  refine n_q hF hS (q_assign rfl) rfl (fun a hF => ?_)
  refine hK6 _ _ ?_
  refine c_ret ?_
  repeat (first | refine ret_then ?_ | refine ret_blk ?_)
  refine c_ret' (P := Tryd.prog) (fn := Tryd.f16) rfl hF hS (.tmp rfl (.tmp rfl .nil)) ⟨_, rfl, ?_⟩
  refine ⟨?_, hS.same⟩
  rw [pubP_yes hc6]; rfl
end Go.Proofs.YtneokajhmonpaaaDoor

namespace Go.Proofs.YtneokajhmonpaaaDoor
open Go Go.RowKit Go.W
set_option maxRecDepth 10000
attribute [local irreducible] pw inG expP baseP mulP fMulP fAddP hashN scalarN restN sha tagged shaD badQ u64N
open Fx

theorem Sign_c (x : Int) (msg : List UInt8) (am : Option Addr) (nm cm : Nat) (hn : nm ≤ 1099510000000) (hc0 : nm ≤ cm) (w : World) (H : Froz) (hz : Fz H w) (hg : Gl 0 1 H) (hr : RdS H am nm 1 (bc msg)) :
    CallsR Tryd.prog 51 [.int .i64 x, .slice am nm cm] w fun v w' => v = .tuple #[.agg #[.int .i64 (sigP x msg).1.1, .int .i64 (sigP x msg).1.2], .int .i64 (sigP x msg).2] ∧ St ⟨w, H, []⟩ H [] w' := by
  refine calls_start Tryd.func51 rfl Tryd.ntmps51 rfl (fun a hF => ?_)
  have hS := St.start w H hz
  refine c_seq (fun K1 hK1 => ?_)
  refine c_reg ?_
  refine n_l rfl (fun K2 hK2 => l_alloc hF hS zr37 rfl (fun a w b1 hF hS => hK2 _ _ ?_))
  refine n_q hF hS (q_assign rfl) rfl (fun a hF => ?_)
  refine hK1 _ _ ?_
  refine c_seq (fun K3 hK3 => ?_)
  refine c_reg ?_
  refine n_q hF hS (q_move rfl) rfl (fun a hF => ?_)
  refine n_q hF hS (q_assign rfl) rfl (fun a hF => ?_)
  refine hK3 _ _ ?_
  refine c_seq (fun K4 hK4 => ?_)
  refine c_reg ?_
  refine n_q hF hS (q_move rfl) rfl (fun a hF => ?_)
  refine n_q hF hS (q_makeFunc rfl rfl) rfl (fun a hF => ?_)
  refine n_q hF hS (q_move rfl) rfl (fun a hF => ?_)
  refine n_q hF hS (q_makeFunc rfl rfl) rfl (fun a hF => ?_)
  refine n_q hF hS (q_assign rfl) rfl (fun a hF => ?_)
  refine n_q hF hS (q_assign rfl) rfl (fun a hF => ?_)
  refine hK4 _ _ ?_
  refine c_seq (fun K5 hK5 => ?_)
  refine c_seq (fun K6 hK6 => ?_)
  refine c_reg ?_
  refine n_q hF hS (q_move rfl) rfl (fun a hF => ?_)
  refine n_l rfl (fun K7 hK7 => l_callv en53 hF rfl rfl rfl (valid_c x _ _ hS.fz) (fun v7 w hR a hF => ?_))
  obtain ⟨rfl, hc⟩ := hR
  replace hS := hS.call0 hc
  refine hK7 _ _ ?_
  refine n_q hF hS (q_not rfl) rfl (fun a hF => ?_)
  refine hK6 _ _ ?_
  refine spn hF (s := 19) rfl (fun hc19 hF => ?_) (fun hc19 hF => ?_)
  refine c_true hF rfl ?_
  refine c_seq (fun K8 hK8 => ?_)
  refine c_reg ?_
  refine n_q hF hS (q_load0 ty37 rfl (i := 0) rfl rfl rfl) rfl (fun a hF => ?_)
  refine n_l rfl (fun K9 hK9 => l_store0A ty37 hF hS rfl rfl (i := 0) rfl rfl rfl rfl (fun a w hF hS => hK9 _ _ ?_))
  refine n_q hF hS (q_assign rfl) rfl (fun a hF => ?_)
  refine hK8 _ _ ?_
  refine c_ret ?_
  repeat (first | refine ret_then ?_ | refine ret_blk ?_)
  refine c_ret' (P := Tryd.prog) (fn := Tryd.f51) rfl hF hS (.cell0 rfl ty37 (i := 0) rfl rfl rfl (.tmp rfl .nil)) ⟨_, rfl, ?_⟩
  refine ⟨?_, hS.same⟩
  rw [sigP_no hc19]; rfl
  refine c_false hF rfl ?_
  refine wp_skip ?_
  refine hK5 _ _ ?_
  refine c_seq (fun K10 hK10 => ?_)
  refine c_reg ?_
  refine n_q hF hS (q_move rfl) rfl (fun a hF => ?_)
  refine n_q hF hS (q_move rfl) rfl (fun a hF => ?_)
  refine n_l rfl (fun K11 hK11 => l_buildF (els := [[_]]) Tryd.underlying169 ty3 zr3 hF hS rfl rfl rfl (by simp [Value.cells, dc_length, Hd.c_len, En.c_len, List.length_replicate, List.length_cons, List.length_nil, List.length_append]) rfl rfl rfl (fun a w b2 hF hle hS r5_2 => ?_))
  replace hr := hr.mono hle
  replace hg := hg.mono hle
  refine hK11 _ _ ?_
  refine n_l rfl (fun K12 hK12 => l_call en70 hF rfl rfl (hash_c ⟨#[110, 111, 110, 99, 101]⟩ [110, 111, 110, 99, 101] rfl msg _ _ _ [x] _ _ (by decide) hn hc0 (by simp) _ _ hS.fz hg hr r5_2) (fun v12 w hR a hF => ?_))
  obtain ⟨hv, hc⟩ := hR
  obtain ⟨k, hgk⟩ : ∃ e : Nat, e = hashN tNonce msg [x] := ⟨_, rfl⟩
  rw [← hgk] at hv
  subst hv
  replace hS := hS.call0 hc
  refine hK12 _ _ ?_
  refine n_q hF hS (q_assign rfl) rfl (fun a hF => ?_)
  refine hK10 _ _ ?_
  refine c_seq (fun K13 hK13 => ?_)
  refine c_reg ?_
  refine n_q hF hS (q_move rfl) rfl (fun a hF => ?_)
  refine n_l rfl (fun K14 hK14 => l_call en68 hF rfl rfl (gBase_c _ _ _ hS.fz) (fun v14 w hR a hF => ?_))
  obtain ⟨hv, hc⟩ := hR
  obtain ⟨R, hgR⟩ : ∃ e : Int, e = (baseP k).1 := ⟨_, rfl⟩
  rw [← hgR] at hv
  subst hv
  replace hS := hS.call0 hc
  refine hK14 _ _ ?_
  refine n_q hF hS (q_move rfl) rfl (fun a hF => ?_)
  refine n_q hF hS (q_extract (i := 0) rfl rfl) rfl (fun a hF => ?_)
  refine n_q hF hS (q_extract (i := 1) rfl rfl) rfl (fun a hF => ?_)
  refine n_q hF hS (q_fieldAddr fl37_0 (by decide) rfl) rfl (fun a hF => ?_)
  refine n_l rfl (fun K15 hK15 => l_store (vs := [_]) ty3 hF hS rfl rfl (i := 0) rfl rfl rfl rfl rfl (fun a w hF hS => hK15 _ _ ?_))
  refine hK13 _ _ ?_
  refine c_seq (fun K16 hK16 => ?_)
  refine r_start (fun L => L) [] mo hS (fun w hS => ?_)
  refine r_q (i := 0) rfl rfl hF hS (q_move rfl) rfl (fun a hF => ?_)
  refine r_q (i := 1) rfl rfl hF hS (q_fieldAddr fl37_0 (by decide) rfl) rfl (fun a hF => ?_)
  refine r_q (i := 2) rfl rfl hF hS (q_load ty3 rfl (i := 0) rfl rfl rfl rfl) rfl (fun a hF => ?_)
  refine r_q (i := 3) rfl rfl hF hS (q_move rfl) rfl (fun a hF => ?_)
  refine r_q (i := 7) rfl rfl hF hS (q_move rfl) rfl (fun a hF => ?_)
  refine r_one (i := 4) (by kernel_rfl) ?_
  have hsub := hS.sub
  refine r_li rfl rfl (fun K17 hK17 => l_callv en54 hF rfl rfl rfl (public_c x _ _ hS.fz) (fun v17 w hR a hF => ?_))
  obtain ⟨rfl, hc⟩ := hR
  replace hS := hS.call0 hc
  refine hK17 _ _ _ hS (fun _ h => h) ?_
  refine r_one (i := 5) (by kernel_rfl) ?_
  have hsub := hS.sub
  refine r_li rfl rfl (fun K18 hK18 => l_buildF (els := [[_], [_]]) Tryd.underlying169 ty3 zr3 hF hS rfl rfl rfl (by simp [Value.cells, dc_length, Hd.c_len, En.c_len, List.length_replicate, List.length_cons, List.length_nil, List.length_append]) rfl rfl rfl (fun a w b3 hF hle hS r7_5 => ?_))
  replace hr := hr.mono hle
  replace hg := hg.mono hle
  replace r5_2 := r5_2.mono hle
  refine hK18 _ _ _ hS (fun _ h => h.forget hsub hle) ?_
  refine r_one (i := 6) (by kernel_rfl) ?_
  have hsub := hS.sub
  refine r_li rfl rfl (fun K19 hK19 => l_call en70 hF rfl rfl (hash_c ⟨#[115, 105, 103, 110]⟩ [115, 105, 103, 110] rfl msg _ _ _ [R, (baseP x).1] _ _ (by decide) hn hc0 (by simp) _ _ hS.fz hg hr r7_5) (fun v19 w hR a hF => ?_))
  obtain ⟨hv, hc⟩ := hR
  obtain ⟨c, hgc⟩ : ∃ e : Int, e = (hashN tSign msg [R, (baseP x).1] : Int) := ⟨_, rfl⟩
  rw [← hgc] at hv
  subst hv
  replace hS := hS.call0 hc
  refine hK19 _ _ _ hS (fun _ h => h) ?_
  refine r_one (i := 8) (by kernel_rfl) ?_
  have hsub := hS.sub
  refine r_li rfl rfl (fun K20 hK20 => l_call en87 hF rfl rfl (fMul_c _ _ _ _ hS.fz) (fun v20 w hR a hF => ?_))
  obtain ⟨hv, hc⟩ := hR
  obtain ⟨m, hgm⟩ : ∃ e : Int, e = (fMulP c x).1 := ⟨_, rfl⟩
  rw [← hgm] at hv
  subst hv
  replace hS := hS.call0 hc
  refine hK20 _ _ _ hS (fun _ h => h) ?_
  refine r_q (i := 9) rfl rfl hF hS (q_move rfl) rfl (fun a hF => ?_)
  refine r_q (i := 10) rfl rfl hF hS (q_extract (i := 0) rfl rfl) rfl (fun a hF => ?_)
  refine r_q (i := 11) rfl rfl hF hS (q_extract (i := 1) rfl rfl) rfl (fun a hF => ?_)
  refine r_q (i := 12) rfl rfl hF hS (q_assign rfl) rfl (fun a hF => ?_)
  refine r_q (i := 13) rfl rfl hF hS (q_assign rfl) rfl (fun a hF => ?_)
  refine r_done (by kernel_rfl) ?_
  refine hK16 _ _ ?_
  refine c_seq (fun K21 hK21 => ?_)
  refine c_reg ?_
  refine n_q hF hS (q_move rfl) rfl (fun a hF => ?_)
  refine n_q hF hS (q_move rfl) rfl (fun a hF => ?_)
  refine n_l rfl (fun K22 hK22 => l_call en88 hF rfl rfl (fAdd_c _ _ _ _ hS.fz) (fun v22 w hR a hF => ?_))
  obtain ⟨rfl, hc⟩ := hR
  replace hS := hS.call0 hc
  refine hK22 _ _ ?_
  refine n_q hF hS (q_move rfl) rfl (fun a hF => ?_)
  refine n_q hF hS (q_extract (i := 0) rfl rfl) rfl (fun a hF => ?_)
  refine n_q hF hS (q_extract (i := 1) rfl rfl) rfl (fun a hF => ?_)
  refine n_q hF hS (q_fieldAddr fl37_1 (by decide) rfl) rfl (fun a hF => ?_)
  refine n_l rfl (fun K23 hK23 => l_store (vs := [_]) ty3 hF hS rfl rfl (i := 0) rfl rfl rfl rfl rfl (fun a w hF hS => hK23 _ _ ?_))
  refine n_q hF hS (q_assign rfl) rfl (fun a hF => ?_)
  refine hK21 _ _ ?_
  refine c_seq (fun K24 hK24 => ?_)
  refine c_reg ?_
  refine n_q hF hS (q_load0 ty37 rfl (i := 0) rfl rfl rfl) rfl (fun a hF => ?_)
  refine n_q hF hS (q_move rfl) rfl (fun a hF => ?_)
  refine n_l rfl (fun K25 hK25 => l_store0A ty37 hF hS rfl rfl (i := 0) rfl rfl rfl rfl (fun a w hF hS => hK25 _ _ ?_))
  refine n_q hF hS (q_assign rfl) rfl (fun a hF => ?_)
  refine hK24 _ _ ?_
  refine c_ret ?_
  repeat (first | refine ret_then ?_ | refine ret_blk ?_)
  refine c_ret' (P := Tryd.prog) (fn := Tryd.f51) rfl hF hS (.cell0 rfl ty37 (i := 0) rfl rfl rfl (.tmp rfl .nil)) ⟨_, rfl, ?_⟩
  refine ⟨?_, hS.same⟩
  rw [sigP_yes hc19 hgk.symm hgR.symm hgc.symm hgm.symm]; rfl

theorem SVerify_c (pub : Int) (msg : List UInt8) (am : Option Addr) (nm cm : Nat) (R S : Int) (hn : nm ≤ 1099510000000) (hc0 : nm ≤ cm) (w : World) (H : Froz) (hz : Fz H w) (hg : Gl 0 1 H) (hr : RdS H am nm 1 (bc msg)) :
    CallsR Tryd.prog 27 [.int .i64 pub, .slice am nm cm, .agg #[.int .i64 R, .int .i64 S]] w fun v w' => v = .bool (verP pub msg R S) ∧ St ⟨w, H, []⟩ H [] w' := by
  refine calls_start Tryd.func27 rfl Tryd.ntmps27 rfl (fun a hF => ?_)
  have hS := St.start w H hz
  refine c_seq (fun K1 hK1 => ?_)
  refine c_reg ?_
  refine n_l rfl (fun K2 hK2 => l_boxA hF hS rfl rfl (fun a w b1 hF hS => hK2 _ _ ?_))
  refine n_q hF hS (q_assign rfl) rfl (fun a hF => ?_)
  refine hK1 _ _ ?_
  refine c_seq (fun K3 hK3 => ?_)
  refine r_start (fun L => L) [10] mo hS (fun w hS => ?_)
  refine r_q (i := 0) rfl rfl hF hS (q_move rfl) rfl (fun a hF => ?_)
  refine r_q (i := 2) rfl rfl hF hS (q_fieldAddr fl37_0 (by decide) rfl) rfl (fun a hF => ?_)
  refine r_q (i := 3) rfl rfl hF hS (q_load ty3 rfl (i := 0) rfl rfl rfl rfl) rfl (fun a hF => ?_)
  refine r_q (i := 5) rfl rfl hF hS (q_fieldAddr fl37_1 (by decide) rfl) rfl (fun a hF => ?_)
  refine r_q (i := 6) rfl rfl hF hS (q_load ty3 rfl (i := 0) rfl rfl rfl rfl) rfl (fun a hF => ?_)
  refine r_two (i := 1) (j := 9) (by kernel_rfl) ?_ ?_
  have hsub := hS.sub
  refine r_li rfl rfl (fun K4 hK4 => l_call en66 hF rfl rfl (gCheck_c _ _ _ hS.fz) (fun v4 w hR a hF => ?_))
  obtain ⟨rfl, hc⟩ := hR
  replace hS := hS.call0 hc
  refine hK4 _ _ _ hS (fun _ h => h) ?_
  refine r_two (i := 4) (j := 9) (by kernel_rfl) ?_ ?_
  have hsub := hS.sub
  refine r_li rfl rfl (fun K5 hK5 => l_call en66 hF rfl rfl (gCheck_c _ _ _ hS.fz) (fun v5 w hR a hF => ?_))
  obtain ⟨rfl, hc⟩ := hR
  replace hS := hS.call0 hc
  refine hK5 _ _ _ hS (fun _ h => h) ?_
  refine r_two (i := 7) (j := 9) (by kernel_rfl) ?_ ?_
  have hsub := hS.sub
  refine r_li rfl rfl (fun K6 hK6 => l_call en67 hF rfl rfl (fCheck_c _ _ _ hS.fz) (fun v6 w hR a hF => ?_))
  obtain ⟨rfl, hc⟩ := hR
  replace hS := hS.call0 hc
  refine hK6 _ _ _ hS (fun _ h => h) ?_
  refine r_q (i := 8) rfl rfl hF hS (q_buildA (cs := [_, _, _]) Tryd.underlying129 ty29 zr129 rfl (by first | rfl | simp [bldA, spl, dc_length, Hd.c_len, En.c_len, List.length_replicate, List.length_cons, List.length_nil, List.length_append])) rfl (fun a hF => ?_)
  refine r_one (i := 9) (by kernel_rfl) ?_
  refine r_li rfl rfl (fun K7 hK7 => l_alloc hF hS zr129 rfl (fun a w b2 hF hS => hK7 _ _ _ hS (fun _ h => h.weak_cons) ?_))
  refine r_one (i := 10) (by kernel_rfl) ?_
  refine r_lL rfl rfl rfl (fun K8 hK8 => l_store0A ty129 hF hS rfl rfl (i := 0) rfl rfl rfl rfl (fun a w hF hS => hK8 _ _ ?_))
  refine r_done (by kernel_rfl) ?_
  refine hK3 _ _ ?_
  refine c_seq (fun K9 hK9 => ?_)
  refine c_seq (fun K10 hK10 => ?_)
  refine c_reg ?_
  refine n_q hF hS (q_load0 ty129 rfl (i := 0) rfl rfl rfl) rfl (fun a hF => ?_)
  refine n_q hF hS (q_buildA (cs := [_, _, _]) Tryd.underlying129 ty29 zr129 rfl (by first | rfl | simp [bldA, spl, dc_length, Hd.c_len, En.c_len, List.length_replicate, List.length_cons, List.length_nil, List.length_append])) rfl (fun a hF => ?_)
  refine n_q hF hS (q_neArrI (k := .i64) (xs := [if inG pub then 0 else 40, if inG R then 0 else 40, if badQ S then 1 else 0]) (ys := [0, 0, 0]) gu129 Tryd.underlying129 Tryd.underlying3 ty3 rfl rfl rfl rfl) rfl (fun a hF => ?_)
  refine hK10 _ _ ?_
  refine spn hF (s := 25) rfl (fun hc25 hF => ?_) (fun hc25 hF => ?_)
  refine c_true hF rfl ?_
  refine c_seq (fun K11 hK11 => ?_)
  refine c_reg ?_
  refine n_q hF hS (q_assign rfl) rfl (fun a hF => ?_)
  refine hK11 _ _ ?_
  refine c_ret ?_
  repeat (first | refine ret_then ?_ | refine ret_blk ?_)
  refine c_ret' (P := Tryd.prog) (fn := Tryd.f27) rfl hF hS (.tmp rfl .nil) ⟨_, rfl, ?_⟩
  refine ⟨?_, hS.same⟩
  rw [verP_no hc25]; rfl
  refine c_false hF rfl ?_
  refine wp_skip ?_
  refine hK9 _ _ ?_
  refine c_seq (fun K12 hK12 => ?_)
  refine c_reg ?_
  refine n_q hF hS (q_fieldAddr fl37_1 (by decide) rfl) rfl (fun a hF => ?_)
  refine n_q hF hS (q_load ty3 rfl (i := 1) rfl rfl rfl rfl) rfl (fun a hF => ?_)
  refine n_l rfl (fun K13 hK13 => l_call en68 hF rfl rfl (gBase_c _ _ _ hS.fz) (fun v13 w hR a hF => ?_))
  obtain ⟨rfl, hc⟩ := hR
  replace hS := hS.call0 hc
  refine hK13 _ _ ?_
  refine n_q hF hS (q_move rfl) rfl (fun a hF => ?_)
  refine n_q hF hS (q_extract (i := 0) rfl rfl) rfl (fun a hF => ?_)
  refine n_q hF hS (q_extract (i := 1) rfl rfl) rfl (fun a hF => ?_)
  refine n_q hF hS (q_assign rfl) rfl (fun a hF => ?_)
  refine n_q hF hS (q_assign rfl) rfl (fun a hF => ?_)
  refine hK12 _ _ ?_
  refine c_seq (fun K14 hK14 => ?_)
  refine c_reg ?_
  refine n_q hF hS (q_move rfl) rfl (fun a hF => ?_)
  refine n_q hF hS (q_move rfl) rfl (fun a hF => ?_)
  refine n_q hF hS (q_fieldAddr fl37_0 (by decide) rfl) rfl (fun a hF => ?_)
  refine n_q hF hS (q_load ty3 rfl (i := 1) rfl rfl rfl rfl) rfl (fun a hF => ?_)
  refine n_q hF hS (q_move rfl) rfl (fun a hF => ?_)
  refine n_l rfl (fun K15 hK15 => l_buildF (els := [[_], [_]]) Tryd.underlying169 ty3 zr3 hF hS rfl rfl rfl (by simp [Value.cells, dc_length, Hd.c_len, En.c_len, List.length_replicate, List.length_cons, List.length_nil, List.length_append]) rfl rfl rfl (fun a w b3 hF hle hS r5_5 => ?_))
  replace hr := hr.mono hle
  replace hg := hg.mono hle
  refine hK15 _ _ ?_
  refine n_l rfl (fun K16 hK16 => l_call en70 hF rfl rfl (hash_c ⟨#[115, 105, 103, 110]⟩ [115, 105, 103, 110] rfl msg _ _ _ [R, pub] _ _ (by decide) hn hc0 (by simp) _ _ hS.fz hg hr r5_5) (fun v16 w hR a hF => ?_))
  obtain ⟨rfl, hc⟩ := hR
  replace hS := hS.call0 hc
  refine hK16 _ _ ?_
  refine n_l rfl (fun K17 hK17 => l_call en69 hF rfl rfl (gExp_c _ _ _ _ hS.fz) (fun v17 w hR a hF => ?_))
  obtain ⟨rfl, hc⟩ := hR
  replace hS := hS.call0 hc
  refine hK17 _ _ ?_
  refine n_q hF hS (q_move rfl) rfl (fun a hF => ?_)
  refine n_q hF hS (q_extract (i := 0) rfl rfl) rfl (fun a hF => ?_)
  refine n_q hF hS (q_extract (i := 1) rfl rfl) rfl (fun a hF => ?_)
  refine n_q hF hS (q_assign rfl) rfl (fun a hF => ?_)
  refine n_q hF hS (q_assign rfl) rfl (fun a hF => ?_)
  refine hK14 _ _ ?_
  refine c_seq (fun K18 hK18 => ?_)
  refine c_reg ?_
  refine n_q hF hS (q_fieldAddr fl37_0 (by decide) rfl) rfl (fun a hF => ?_)
  refine n_q hF hS (q_load ty3 rfl (i := 1) rfl rfl rfl rfl) rfl (fun a hF => ?_)
  refine n_q hF hS (q_move rfl) rfl (fun a hF => ?_)
  refine n_l rfl (fun K19 hK19 => l_call en71 hF rfl rfl (gMul_c _ _ _ _ hS.fz) (fun v19 w hR a hF => ?_))
  obtain ⟨rfl, hc⟩ := hR
  replace hS := hS.call0 hc
  refine hK19 _ _ ?_
  refine n_q hF hS (q_move rfl) rfl (fun a hF => ?_)
  refine n_q hF hS (q_extract (i := 0) rfl rfl) rfl (fun a hF => ?_)
  refine n_q hF hS (q_extract (i := 1) rfl rfl) rfl (fun a hF => ?_)
  refine n_q hF hS (q_assign rfl) rfl (fun a hF => ?_)
  refine n_q hF hS (q_assign rfl) rfl (fun a hF => ?_)
  refine hK18 _ _ ?_
  refine c_seq (fun K20 hK20 => ?_)
  refine c_reg ?_
  refine n_q hF hS (q_move rfl) rfl (fun a hF => ?_)
  refine n_q hF hS (q_move rfl) rfl (fun a hF => ?_)
  refine n_q hF hS (q_eqI rfl rfl) rfl (fun a hF => ?_)
  refine n_q hF hS (q_assign rfl) rfl (fun a hF => ?_)
  refine hK20 _ _ ?_
  refine c_ret ?_
  repeat (first | refine ret_then ?_ | refine ret_blk ?_)
  refine c_ret' (P := Tryd.prog) (fn := Tryd.f27) rfl hF hS (.tmp rfl .nil) ⟨_, rfl, ?_⟩
  refine ⟨?_, hS.same⟩
  rw [verP_yes hc25]; rfl
  refine r_li rfl rfl (fun K21 hK21 => l_alloc hF hS zr129 rfl (fun a w b4 hF hS => hK21 _ _ _ hS (fun _ h => h.weak_cons) ?_))
  refine r_one (i := 7) (by kernel_rfl) ?_
  have hsub := hS.sub
  refine r_li rfl rfl (fun K22 hK22 => l_call en67 hF rfl rfl (fCheck_c _ _ _ hS.fz) (fun v22 w hR a hF => ?_))
  obtain ⟨rfl, hc⟩ := hR
  replace hS := hS.call0 hc
  refine hK22 _ _ _ hS (fun _ h => h) ?_
  refine r_q (i := 8) rfl rfl hF hS (q_buildA (cs := [_, _, _]) Tryd.underlying129 ty29 zr129 rfl (by first | rfl | simp [bldA, spl, dc_length, Hd.c_len, En.c_len, List.length_replicate, List.length_cons, List.length_nil, List.length_append])) rfl (fun a hF => ?_)
  refine r_one (i := 10) (by kernel_rfl) ?_
  refine r_lL rfl rfl rfl (fun K23 hK23 => l_store0A ty129 hF hS rfl rfl (i := 0) rfl rfl rfl rfl (fun a w hF hS => hK23 _ _ ?_))
  refine r_done (by kernel_rfl) ?_
  refine hK3 _ _ ?_
  refine c_seq (fun K24 hK24 => ?_)
  refine c_seq (fun K25 hK25 => ?_)
  refine c_reg ?_
  refine n_q hF hS (q_load0 ty129 rfl (i := 0) rfl rfl rfl) rfl (fun a hF => ?_)
  refine n_q hF hS (q_buildA (cs := [_, _, _]) Tryd.underlying129 ty29 zr129 rfl (by first | rfl | simp [bldA, spl, dc_length, Hd.c_len, En.c_len, List.length_replicate, List.length_cons, List.length_nil, List.length_append])) rfl (fun a hF => ?_)
  refine n_q hF hS (q_neArrI (k := .i64) (xs := [if inG pub then 0 else 40, if inG R then 0 else 40, if badQ S then 1 else 0]) (ys := [0, 0, 0]) gu129 Tryd.underlying129 Tryd.underlying3 ty3 rfl rfl rfl rfl) rfl (fun a hF => ?_)
  refine hK25 _ _ ?_
  refine spn hF (s := 25) rfl (fun hc25 hF => ?_) (fun hc25 hF => ?_)
  refine c_true hF rfl ?_
  refine c_seq (fun K26 hK26 => ?_)
  refine c_reg ?_
  refine n_q hF hS (q_assign rfl) rfl (fun a hF => ?_)
  refine hK26 _ _ ?_
  refine c_ret ?_
  repeat (first | refine ret_then ?_ | refine ret_blk ?_)
  refine c_ret' (P := Tryd.prog) (fn := Tryd.f27) rfl hF hS (.tmp rfl .nil) ⟨_, rfl, ?_⟩
  refine ⟨?_, hS.same⟩
  rw [verP_no hc25]; rfl
  refine c_false hF rfl ?_
  refine wp_skip ?_
  refine hK24 _ _ ?_
  refine c_seq (fun K27 hK27 => ?_)
  refine c_reg ?_
  refine n_q hF hS (q_fieldAddr fl37_1 (by decide) rfl) rfl (fun a hF => ?_)
  refine n_q hF hS (q_load ty3 rfl (i := 1) rfl rfl rfl rfl) rfl (fun a hF => ?_)
  refine n_l rfl (fun K28 hK28 => l_call en68 hF rfl rfl (gBase_c _ _ _ hS.fz) (fun v28 w hR a hF => ?_))
  obtain ⟨rfl, hc⟩ := hR
  replace hS := hS.call0 hc
  refine hK28 _ _ ?_
  refine n_q hF hS (q_move rfl) rfl (fun a hF => ?_)
  refine n_q hF hS (q_extract (i := 0) rfl rfl) rfl (fun a hF => ?_)
  refine n_q hF hS (q_extract (i := 1) rfl rfl) rfl (fun a hF => ?_)
  refine n_q hF hS (q_assign rfl) rfl (fun a hF => ?_)
  refine n_q hF hS (q_assign rfl) rfl (fun a hF => ?_)
  refine hK27 _ _ ?_
  refine c_seq (fun K29 hK29 => ?_)
  refine c_reg ?_
  refine n_q hF hS (q_move rfl) rfl (fun a hF => ?_)
  refine n_q hF hS (q_move rfl) rfl (fun a hF => ?_)
  refine n_q hF hS (q_fieldAddr fl37_0 (by decide) rfl) rfl (fun a hF => ?_)
  refine n_q hF hS (q_load ty3 rfl (i := 1) rfl rfl rfl rfl) rfl (fun a hF => ?_)
  refine n_q hF hS (q_move rfl) rfl (fun a hF => ?_)
  refine n_l rfl (fun K30 hK30 => l_buildF (els := [[_], [_]]) Tryd.underlying169 ty3 zr3 hF hS rfl rfl rfl (by simp [Value.cells, dc_length, Hd.c_len, En.c_len, List.length_replicate, List.length_cons, List.length_nil, List.length_append]) rfl rfl rfl (fun a w b5 hF hle hS r5_5 => ?_))
  replace hr := hr.mono hle
  replace hg := hg.mono hle
  refine hK30 _ _ ?_
  refine n_l rfl (fun K31 hK31 => l_call en70 hF rfl rfl (hash_c ⟨#[115, 105, 103, 110]⟩ [115, 105, 103, 110] rfl msg _ _ _ [R, pub] _ _ (by decide) hn hc0 (by simp) _ _ hS.fz hg hr r5_5) (fun v31 w hR a hF => ?_))
  obtain ⟨rfl, hc⟩ := hR
  replace hS := hS.call0 hc
  refine hK31 _ _ ?_
  refine n_l rfl (fun K32 hK32 => l_call en69 hF rfl rfl (gExp_c _ _ _ _ hS.fz) (fun v32 w hR a hF => ?_))
  obtain ⟨rfl, hc⟩ := hR
  replace hS := hS.call0 hc
  refine hK32 _ _ ?_
  refine n_q hF hS (q_move rfl) rfl (fun a hF => ?_)
  refine n_q hF hS (q_extract (i := 0) rfl rfl) rfl (fun a hF => ?_)
  refine n_q hF hS (q_extract (i := 1) rfl rfl) rfl (fun a hF => ?_)
  refine n_q hF hS (q_assign rfl) rfl (fun a hF => ?_)
  refine n_q hF hS (q_assign rfl) rfl (fun a hF => ?_)
  refine hK29 _ _ ?_
  refine c_seq (fun K33 hK33 => ?_)
  refine c_reg ?_
  refine n_q hF hS (q_fieldAddr fl37_0 (by decide) rfl) rfl (fun a hF => ?_)
  refine n_q hF hS (q_load ty3 rfl (i := 1) rfl rfl rfl rfl) rfl (fun a hF => ?_)
  refine n_q hF hS (q_move rfl) rfl (fun a hF => ?_)
  refine n_l rfl (fun K34 hK34 => l_call en71 hF rfl rfl (gMul_c _ _ _ _ hS.fz) (fun v34 w hR a hF => ?_))
  obtain ⟨rfl, hc⟩ := hR
  replace hS := hS.call0 hc
  refine hK34 _ _ ?_
  refine n_q hF hS (q_move rfl) rfl (fun a hF => ?_)
  refine n_q hF hS (q_extract (i := 0) rfl rfl) rfl (fun a hF => ?_)
  refine n_q hF hS (q_extract (i := 1) rfl rfl) rfl (fun a hF => ?_)
  refine n_q hF hS (q_assign rfl) rfl (fun a hF => ?_)
  refine n_q hF hS (q_assign rfl) rfl (fun a hF => ?_)
  refine hK33 _ _ ?_
  refine c_seq (fun K35 hK35 => ?_)
  refine c_reg ?_
  refine n_q hF hS (q_move rfl) rfl (fun a hF => ?_)
  refine n_q hF hS (q_move rfl) rfl (fun a hF => ?_)
  refine n_q hF hS (q_eqI rfl rfl) rfl (fun a hF => ?_)
  refine n_q hF hS (q_assign rfl) rfl (fun a hF => ?_)
  refine hK35 _ _ ?_
  refine c_ret ?_
  repeat (first | refine ret_then ?_ | refine ret_blk ?_)
  refine c_ret' (P := Tryd.prog) (fn := Tryd.f27) rfl hF hS (.tmp rfl .nil) ⟨_, rfl, ?_⟩
  refine ⟨?_, hS.same⟩
  rw [verP_yes hc25]; rfl
  refine r_li rfl rfl (fun K36 hK36 => l_alloc hF hS zr129 rfl (fun a w b6 hF hS => hK36 _ _ _ hS (fun _ h => h.weak_cons) ?_))
  refine r_one (i := 4) (by kernel_rfl) ?_
  have hsub := hS.sub
  refine r_li rfl rfl (fun K37 hK37 => l_call en66 hF rfl rfl (gCheck_c _ _ _ hS.fz) (fun v37 w hR a hF => ?_))
  obtain ⟨rfl, hc⟩ := hR
  replace hS := hS.call0 hc
  refine hK37 _ _ _ hS (fun _ h => h) ?_
  refine r_one (i := 7) (by kernel_rfl) ?_
  have hsub := hS.sub
  refine r_li rfl rfl (fun K38 hK38 => l_call en67 hF rfl rfl (fCheck_c _ _ _ hS.fz) (fun v38 w hR a hF => ?_))
  obtain ⟨rfl, hc⟩ := hR
  replace hS := hS.call0 hc
  refine hK38 _ _ _ hS (fun _ h => h) ?_
  refine r_q (i := 8) rfl rfl hF hS (q_buildA (cs := [_, _, _]) Tryd.underlying129 ty29 zr129 rfl (by first | rfl | simp [bldA, spl, dc_length, Hd.c_len, En.c_len, List.length_replicate, List.length_cons, List.length_nil, List.length_append])) rfl (fun a hF => ?_)
  refine r_one (i := 10) (by kernel_rfl) ?_
  refine r_lL rfl rfl rfl (fun K39 hK39 => l_store0A ty129 hF hS rfl rfl (i := 0) rfl rfl rfl rfl (fun a w hF hS => hK39 _ _ ?_))
  refine r_done (by kernel_rfl) ?_
  refine hK3 _ _ ?_
  refine c_seq (fun K40 hK40 => ?_)
  refine c_seq (fun K41 hK41 => ?_)
  refine c_reg ?_
  refine n_q hF hS (q_load0 ty129 rfl (i := 0) rfl rfl rfl) rfl (fun a hF => ?_)
  refine n_q hF hS (q_buildA (cs := [_, _, _]) Tryd.underlying129 ty29 zr129 rfl (by first | rfl | simp [bldA, spl, dc_length, Hd.c_len, En.c_len, List.length_replicate, List.length_cons, List.length_nil, List.length_append])) rfl (fun a hF => ?_)
  refine n_q hF hS (q_neArrI (k := .i64) (xs := [if inG pub then 0 else 40, if inG R then 0 else 40, if badQ S then 1 else 0]) (ys := [0, 0, 0]) gu129 Tryd.underlying129 Tryd.underlying3 ty3 rfl rfl rfl rfl) rfl (fun a hF => ?_)
  refine hK41 _ _ ?_
  refine spn hF (s := 25) rfl (fun hc25 hF => ?_) (fun hc25 hF => ?_)
  refine c_true hF rfl ?_
  refine c_seq (fun K42 hK42 => ?_)
  refine c_reg ?_
  refine n_q hF hS (q_assign rfl) rfl (fun a hF => ?_)
  refine hK42 _ _ ?_
  refine c_ret ?_
  repeat (first | refine ret_then ?_ | refine ret_blk ?_)
  refine c_ret' (P := Tryd.prog) (fn := Tryd.f27) rfl hF hS (.tmp rfl .nil) ⟨_, rfl, ?_⟩
  refine ⟨?_, hS.same⟩
  rw [verP_no hc25]; rfl
  refine c_false hF rfl ?_
  refine wp_skip ?_
  refine hK40 _ _ ?_
  refine c_seq (fun K43 hK43 => ?_)
  refine c_reg ?_
  refine n_q hF hS (q_fieldAddr fl37_1 (by decide) rfl) rfl (fun a hF => ?_)
  refine n_q hF hS (q_load ty3 rfl (i := 1) rfl rfl rfl rfl) rfl (fun a hF => ?_)
  refine n_l rfl (fun K44 hK44 => l_call en68 hF rfl rfl (gBase_c _ _ _ hS.fz) (fun v44 w hR a hF => ?_))
  obtain ⟨rfl, hc⟩ := hR
  replace hS := hS.call0 hc
  refine hK44 _ _ ?_
  refine n_q hF hS (q_move rfl) rfl (fun a hF => ?_)
  refine n_q hF hS (q_extract (i := 0) rfl rfl) rfl (fun a hF => ?_)
  refine n_q hF hS (q_extract (i := 1) rfl rfl) rfl (fun a hF => ?_)
  refine n_q hF hS (q_assign rfl) rfl (fun a hF => ?_)
  refine n_q hF hS (q_assign rfl) rfl (fun a hF => ?_)
  refine hK43 _ _ ?_
  refine c_seq (fun K45 hK45 => ?_)
  refine c_reg ?_
  refine n_q hF hS (q_move rfl) rfl (fun a hF => ?_)
  refine n_q hF hS (q_move rfl) rfl (fun a hF => ?_)
  refine n_q hF hS (q_fieldAddr fl37_0 (by decide) rfl) rfl (fun a hF => ?_)
  refine n_q hF hS (q_load ty3 rfl (i := 1) rfl rfl rfl rfl) rfl (fun a hF => ?_)
  refine n_q hF hS (q_move rfl) rfl (fun a hF => ?_)
  refine n_l rfl (fun K46 hK46 => l_buildF (els := [[_], [_]]) Tryd.underlying169 ty3 zr3 hF hS rfl rfl rfl (by simp [Value.cells, dc_length, Hd.c_len, En.c_len, List.length_replicate, List.length_cons, List.length_nil, List.length_append]) rfl rfl rfl (fun a w b7 hF hle hS r5_5 => ?_))
  replace hr := hr.mono hle
  replace hg := hg.mono hle
  refine hK46 _ _ ?_
  refine n_l rfl (fun K47 hK47 => l_call en70 hF rfl rfl (hash_c ⟨#[115, 105, 103, 110]⟩ [115, 105, 103, 110] rfl msg _ _ _ [R, pub] _ _ (by decide) hn hc0 (by simp) _ _ hS.fz hg hr r5_5) (fun v47 w hR a hF => ?_))
  obtain ⟨rfl, hc⟩ := hR
  replace hS := hS.call0 hc
  refine hK47 _ _ ?_
  refine n_l rfl (fun K48 hK48 => l_call en69 hF rfl rfl (gExp_c _ _ _ _ hS.fz) (fun v48 w hR a hF => ?_))
  obtain ⟨rfl, hc⟩ := hR
  replace hS := hS.call0 hc
  refine hK48 _ _ ?_
  refine n_q hF hS (q_move rfl) rfl (fun a hF => ?_)
  refine n_q hF hS (q_extract (i := 0) rfl rfl) rfl (fun a hF => ?_)
  refine n_q hF hS (q_extract (i := 1) rfl rfl) rfl (fun a hF => ?_)
  refine n_q hF hS (q_assign rfl) rfl (fun a hF => ?_)
  refine n_q hF hS (q_assign rfl) rfl (fun a hF => ?_)
  refine hK45 _ _ ?_
  refine c_seq (fun K49 hK49 => ?_)
  refine c_reg ?_
  refine n_q hF hS (q_fieldAddr fl37_0 (by decide) rfl) rfl (fun a hF => ?_)
  refine n_q hF hS (q_load ty3 rfl (i := 1) rfl rfl rfl rfl) rfl (fun a hF => ?_)
  refine n_q hF hS (q_move rfl) rfl (fun a hF => ?_)
  refine n_l rfl (fun K50 hK50 => l_call en71 hF rfl rfl (gMul_c _ _ _ _ hS.fz) (fun v50 w hR a hF => ?_))
  obtain ⟨rfl, hc⟩ := hR
  replace hS := hS.call0 hc
  refine hK50 _ _ ?_
  refine n_q hF hS (q_move rfl) rfl (fun a hF => ?_)
  refine n_q hF hS (q_extract (i := 0) rfl rfl) rfl (fun a hF => ?_)
  refine n_q hF hS (q_extract (i := 1) rfl rfl) rfl (fun a hF => ?_)
  refine n_q hF hS (q_assign rfl) rfl (fun a hF => ?_)
  refine n_q hF hS (q_assign rfl) rfl (fun a hF => ?_)
  refine hK49 _ _ ?_
  refine c_seq (fun K51 hK51 => ?_)
  refine c_reg ?_
  refine n_q hF hS (q_move rfl) rfl (fun a hF => ?_)
  refine n_q hF hS (q_move rfl) rfl (fun a hF => ?_)
  refine n_q hF hS (q_eqI rfl rfl) rfl (fun a hF => ?_)
  refine n_q hF hS (q_assign rfl) rfl (fun a hF => ?_)
  refine hK51 _ _ ?_
  refine c_ret ?_
  repeat (first | refine ret_then ?_ | refine ret_blk ?_)
  refine c_ret' (P := Tryd.prog) (fn := Tryd.f27) rfl hF hS (.tmp rfl .nil) ⟨_, rfl, ?_⟩
  refine ⟨?_, hS.same⟩
  rw [verP_yes hc25]; rfl
  refine r_li rfl rfl (fun K52 hK52 => l_alloc hF hS zr129 rfl (fun a w b8 hF hS => hK52 _ _ _ hS (fun _ h => h.weak_cons) ?_))
  refine r_one (i := 1) (by kernel_rfl) ?_
  have hsub := hS.sub
  refine r_li rfl rfl (fun K53 hK53 => l_call en66 hF rfl rfl (gCheck_c _ _ _ hS.fz) (fun v53 w hR a hF => ?_))
  obtain ⟨rfl, hc⟩ := hR
  replace hS := hS.call0 hc
  refine hK53 _ _ _ hS (fun _ h => h) ?_
  refine r_one (i := 4) (by kernel_rfl) ?_
  have hsub := hS.sub
  refine r_li rfl rfl (fun K54 hK54 => l_call en66 hF rfl rfl (gCheck_c _ _ _ hS.fz) (fun v54 w hR a hF => ?_))
  obtain ⟨rfl, hc⟩ := hR
  replace hS := hS.call0 hc
  refine hK54 _ _ _ hS (fun _ h => h) ?_
  refine r_one (i := 7) (by kernel_rfl) ?_
  have hsub := hS.sub
  refine r_li rfl rfl (fun K55 hK55 => l_call en67 hF rfl rfl (fCheck_c _ _ _ hS.fz) (fun v55 w hR a hF => ?_))
  obtain ⟨rfl, hc⟩ := hR
  replace hS := hS.call0 hc
  refine hK55 _ _ _ hS (fun _ h => h) ?_
  refine r_q (i := 8) rfl rfl hF hS (q_buildA (cs := [_, _, _]) Tryd.underlying129 ty29 zr129 rfl (by first | rfl | simp [bldA, spl, dc_length, Hd.c_len, En.c_len, List.length_replicate, List.length_cons, List.length_nil, List.length_append])) rfl (fun a hF => ?_)
  refine r_one (i := 10) (by kernel_rfl) ?_
  refine r_lL rfl rfl rfl (fun K56 hK56 => l_store0A ty129 hF hS rfl rfl (i := 0) rfl rfl rfl rfl (fun a w hF hS => hK56 _ _ ?_))
  refine r_done (by kernel_rfl) ?_
  refine hK3 _ _ ?_
  refine c_seq (fun K57 hK57 => ?_)
  refine c_seq (fun K58 hK58 => ?_)
  refine c_reg ?_
  refine n_q hF hS (q_load0 ty129 rfl (i := 0) rfl rfl rfl) rfl (fun a hF => ?_)
  refine n_q hF hS (q_buildA (cs := [_, _, _]) Tryd.underlying129 ty29 zr129 rfl (by first | rfl | simp [bldA, spl, dc_length, Hd.c_len, En.c_len, List.length_replicate, List.length_cons, List.length_nil, List.length_append])) rfl (fun a hF => ?_)
  refine n_q hF hS (q_neArrI (k := .i64) (xs := [if inG pub then 0 else 40, if inG R then 0 else 40, if badQ S then 1 else 0]) (ys := [0, 0, 0]) gu129 Tryd.underlying129 Tryd.underlying3 ty3 rfl rfl rfl rfl) rfl (fun a hF => ?_)
  refine hK58 _ _ ?_
  refine spn hF (s := 25) rfl (fun hc25 hF => ?_) (fun hc25 hF => ?_)
  refine c_true hF rfl ?_
  refine c_seq (fun K59 hK59 => ?_)
  refine c_reg ?_
  refine n_q hF hS (q_assign rfl) rfl (fun a hF => ?_)
  refine hK59 _ _ ?_
  refine c_ret ?_
  repeat (first | refine ret_then ?_ | refine ret_blk ?_)
  refine c_ret' (P := Tryd.prog) (fn := Tryd.f27) rfl hF hS (.tmp rfl .nil) ⟨_, rfl, ?_⟩
  refine ⟨?_, hS.same⟩
  rw [verP_no hc25]; rfl
  refine c_false hF rfl ?_
  refine wp_skip ?_
  refine hK57 _ _ ?_
  refine c_seq (fun K60 hK60 => ?_)
  refine c_reg ?_
  refine n_q hF hS (q_fieldAddr fl37_1 (by decide) rfl) rfl (fun a hF => ?_)
  refine n_q hF hS (q_load ty3 rfl (i := 1) rfl rfl rfl rfl) rfl (fun a hF => ?_)
  refine n_l rfl (fun K61 hK61 => l_call en68 hF rfl rfl (gBase_c _ _ _ hS.fz) (fun v61 w hR a hF => ?_))
  obtain ⟨rfl, hc⟩ := hR
  replace hS := hS.call0 hc
  refine hK61 _ _ ?_
  refine n_q hF hS (q_move rfl) rfl (fun a hF => ?_)
  refine n_q hF hS (q_extract (i := 0) rfl rfl) rfl (fun a hF => ?_)
  refine n_q hF hS (q_extract (i := 1) rfl rfl) rfl (fun a hF => ?_)
  refine n_q hF hS (q_assign rfl) rfl (fun a hF => ?_)
  refine n_q hF hS (q_assign rfl) rfl (fun a hF => ?_)
  refine hK60 _ _ ?_
  refine c_seq (fun K62 hK62 => ?_)
  refine c_reg ?_
  refine n_q hF hS (q_move rfl) rfl (fun a hF => ?_)
  refine n_q hF hS (q_move rfl) rfl (fun a hF => ?_)
  refine n_q hF hS (q_fieldAddr fl37_0 (by decide) rfl) rfl (fun a hF => ?_)
  refine n_q hF hS (q_load ty3 rfl (i := 1) rfl rfl rfl rfl) rfl (fun a hF => ?_)
  refine n_q hF hS (q_move rfl) rfl (fun a hF => ?_)
  refine n_l rfl (fun K63 hK63 => l_buildF (els := [[_], [_]]) Tryd.underlying169 ty3 zr3 hF hS rfl rfl rfl (by simp [Value.cells, dc_length, Hd.c_len, En.c_len, List.length_replicate, List.length_cons, List.length_nil, List.length_append]) rfl rfl rfl (fun a w b9 hF hle hS r5_5 => ?_))
  replace hr := hr.mono hle
  replace hg := hg.mono hle
  refine hK63 _ _ ?_
  refine n_l rfl (fun K64 hK64 => l_call en70 hF rfl rfl (hash_c ⟨#[115, 105, 103, 110]⟩ [115, 105, 103, 110] rfl msg _ _ _ [R, pub] _ _ (by decide) hn hc0 (by simp) _ _ hS.fz hg hr r5_5) (fun v64 w hR a hF => ?_))
  obtain ⟨rfl, hc⟩ := hR
  replace hS := hS.call0 hc
  refine hK64 _ _ ?_
  refine n_l rfl (fun K65 hK65 => l_call en69 hF rfl rfl (gExp_c _ _ _ _ hS.fz) (fun v65 w hR a hF => ?_))
  obtain ⟨rfl, hc⟩ := hR
  replace hS := hS.call0 hc
  refine hK65 _ _ ?_
  refine n_q hF hS (q_move rfl) rfl (fun a hF => ?_)
  refine n_q hF hS (q_extract (i := 0) rfl rfl) rfl (fun a hF => ?_)
  refine n_q hF hS (q_extract (i := 1) rfl rfl) rfl (fun a hF => ?_)
  refine n_q hF hS (q_assign rfl) rfl (fun a hF => ?_)
  refine n_q hF hS (q_assign rfl) rfl (fun a hF => ?_)
  refine hK62 _ _ ?_
  refine c_seq (fun K66 hK66 => ?_)
  refine c_reg ?_
  refine n_q hF hS (q_fieldAddr fl37_0 (by decide) rfl) rfl (fun a hF => ?_)
  refine n_q hF hS (q_load ty3 rfl (i := 1) rfl rfl rfl rfl) rfl (fun a hF => ?_)
  refine n_q hF hS (q_move rfl) rfl (fun a hF => ?_)
  refine n_l rfl (fun K67 hK67 => l_call en71 hF rfl rfl (gMul_c _ _ _ _ hS.fz) (fun v67 w hR a hF => ?_))
  obtain ⟨rfl, hc⟩ := hR
  replace hS := hS.call0 hc
  refine hK67 _ _ ?_
  refine n_q hF hS (q_move rfl) rfl (fun a hF => ?_)
  refine n_q hF hS (q_extract (i := 0) rfl rfl) rfl (fun a hF => ?_)
  refine n_q hF hS (q_extract (i := 1) rfl rfl) rfl (fun a hF => ?_)
  refine n_q hF hS (q_assign rfl) rfl (fun a hF => ?_)
  refine n_q hF hS (q_assign rfl) rfl (fun a hF => ?_)
  refine hK66 _ _ ?_
  refine c_seq (fun K68 hK68 => ?_)
  refine c_reg ?_
  refine n_q hF hS (q_move rfl) rfl (fun a hF => ?_)
  refine n_q hF hS (q_move rfl) rfl (fun a hF => ?_)
  refine n_q hF hS (q_eqI rfl rfl) rfl (fun a hF => ?_)
  refine n_q hF hS (q_assign rfl) rfl (fun a hF => ?_)
  refine hK68 _ _ ?_
  refine c_ret ?_
  repeat (first | refine ret_then ?_ | refine ret_blk ?_)
  refine c_ret' (P := Tryd.prog) (fn := Tryd.f27) rfl hF hS (.tmp rfl .nil) ⟨_, rfl, ?_⟩
  refine ⟨?_, hS.same⟩
  rw [verP_yes hc25]; rfl
end Go.Proofs.YtneokajhmonpaaaDoor

namespace Go.Proofs.YtneokajhmonpaaaDoor
open Go Go.RowKit Go.W
set_option maxRecDepth 10000
attribute [local irreducible] pw inG expP baseP mulP fMulP fAddP hashN scalarN restN sha tagged shaD badQ u64N
open Fx

theorem Digest_c (kind : Int) (bs : List UInt8) (a0 : Option Addr) (n c : Nat) (hn : n ≤ 1000000) (hc0 : n ≤ c) (w : World) (H : Froz) (hz : Fz H w) (hg : Gl 0 1 H) (hr : RdS H a0 n 1 (bc bs)) :
    CallsR Tryd.prog 22 [.int .i64 kind, .slice a0 n c] w fun v w' => v = .agg (dc (digE kind bs)).toArray ∧ St ⟨w, H, []⟩ H [] w' := by
  refine calls_start Tryd.func22 rfl Tryd.ntmps22 rfl (fun a hF => ?_)
  have hS := St.start w H hz
  refine c_seq (fun K1 hK1 => ?_)
  refine c_reg ?_
  refine n_l rfl (fun K2 hK2 => l_alloc hF hS zr35 rfl (fun a w b1 hF hS => hK2 _ _ ?_))
  refine hK1 _ _ ?_
  refine c_seq (fun K3 hK3 => ?_)
  refine c_reg ?_
  refine n_q hF hS (q_move rfl) rfl (fun a hF => ?_)
  refine n_q hF hS (q_cv (r := (u8N kind : Int)) Tryd.underlying3 Tryd.underlying5 rfl (wrap_u8N _)) rfl (fun a hF => ?_)
  refine n_l rfl (fun K4 hK4 => l_buildF (els := [[_]]) Tryd.underlying46 ty5 zr5 hF hS rfl rfl rfl (by simp [Value.cells, dc_length, Hd.c_len, En.c_len, List.length_replicate, List.length_cons, List.length_nil, List.length_append]) rfl rfl rfl (fun a w b2 hF hle hS r1_2 => ?_))
  replace hr := hr.mono hle
  replace hg := hg.mono hle
  refine hK4 _ _ ?_
  have hk1 := RdL.u8 r1_2
  refine n_q hF hS (q_move rfl) rfl (fun a hF => ?_)
  refine n_l rfl (fun K5 hK5 => l_buildF (els := [[_], [_]]) Tryd.underlying152 ty46 zr46 hF hS rfl rfl rfl (by simp [Value.cells, dc_length, Hd.c_len, En.c_len, List.length_replicate, List.length_cons, List.length_nil, List.length_append]) rfl rfl rfl (fun a w b3 hF hle hS r1_4 => ?_))
  replace hr := hr.mono hle
  replace hg := hg.mono hle
  replace r1_2 := r1_2.mono hle
  refine hK5 _ _ ?_
  refine n_l rfl (fun K6 hK6 => l_call en55 hF rfl rfl (Concat_c [⟨_, 1, 1, [UInt8.ofNat (u8N kind)]⟩, ⟨a0, n, c, bs⟩] _ _ (by simp) (by simp <;> omega) _ _ hS.fz r1_4 (fun s hs => by simp only [List.mem_cons, List.not_mem_nil, or_false] at hs; rcases hs with rfl | rfl; exact (hk1.mono hle); exact hr)) (fun v6 w hR a hF => ?_))
  obtain ⟨ad, cp, Lx, rfl, ho, hc⟩ := hR
  obtain ⟨H4, hle4, hS4, hr4⟩ := ho.freeze (hS.call hc)
  replace hS := hS4
  have hcp := ho.le
  replace hg := hg.mono hle4
  replace hr := hr.mono hle4
  refine hK6 _ _ ?_
  refine n_l rfl (fun K7 hK7 => l_call en26 hF rfl rfl (Tagged_c ⟨#[101, 110, 116, 114, 121]⟩ (UInt8.ofNat (u8N kind) :: bs) _ _ _ (by decide) (by simp; omega) hcp _ _ hS.fz hg (by simpa using hr4)) (fun v7 w hR a hF => ?_))
  obtain ⟨rfl, hc⟩ := hR
  replace hS := hS.call0 hc
  refine hK7 _ _ ?_
  refine n_l rfl (fun K8 hK8 => l_store0A ty35 hF hS rfl rfl (i := 0) rfl (by simp [dc_length, Hd.c_len, En.c_len, List.length_replicate, List.length_cons, List.length_nil, List.length_append]) (by simp [dc_length, Hd.c_len, En.c_len, List.length_replicate, List.length_cons, List.length_nil, List.length_append]) (by first | exact dc_all1 _ | rfl | simp [all1]) (fun a w hF hS => hK8 _ _ ?_))
  refine hK3 _ _ ?_
  refine c_ret ?_
  repeat (first | refine ret_then ?_ | refine ret_blk ?_)
  refine c_ret' (P := Tryd.prog) (fn := Tryd.f22) rfl hF hS (.cell0 rfl ty35 (i := 0) rfl (by simp [dc_length, Hd.c_len, En.c_len, List.length_replicate, List.length_cons, List.length_nil, List.length_append]) rfl .nil) ⟨_, rfl, ?_⟩
  exact ⟨rfl, hS.same⟩

theorem SChain_c (folder : Int) (ds : List Dg) (a0 : Option Addr) (c : Nat) (hn : ds.length ≤ 1000000) (w : World) (H : Froz) (hz : Fz H w) (hg : Gl 0 1 H) (hr : RdL H a0 32 (dgE ds)) :
    CallsR Tryd.prog 18 [.int .i64 folder, .slice a0 ds.length c] w fun v w' => v = .agg (dc (chainN folder ds)).toArray ∧ St ⟨w, H, []⟩ H [] w' := by
  refine calls_start Tryd.func18 rfl Tryd.ntmps18 rfl (fun a hF => ?_)
  have hS := St.start w H hz
  refine c_seq (fun K1 hK1 => ?_)
  refine c_reg ?_
  refine n_l rfl (fun K2 hK2 => l_alloc hF hS zr35 rfl (fun a w b1 hF hS => hK2 _ _ ?_))
  refine hK1 _ _ ?_
  refine c_seq (fun K3 hK3 => ?_)
  refine c_reg ?_
  refine n_q hF hS (q_move rfl) rfl (fun a hF => ?_)
  refine n_q hF hS (q_cv (r := (u8N folder : Int)) Tryd.underlying3 Tryd.underlying5 rfl (wrap_u8N _)) rfl (fun a hF => ?_)
  refine n_l rfl (fun K4 hK4 => l_buildF (els := [[_]]) Tryd.underlying46 ty5 zr5 hF hS rfl rfl rfl (by simp [Value.cells, dc_length, Hd.c_len, En.c_len, List.length_replicate, List.length_cons, List.length_nil, List.length_append]) rfl rfl rfl (fun a w b2 hF hle hS r1_2 => ?_))
  replace hr := hr.mono hle
  replace hg := hg.mono hle
  refine hK4 _ _ ?_
  have hk1 := RdL.u8 r1_2
  refine n_l rfl (fun K5 hK5 => l_call en26 hF rfl rfl (Tagged_c ⟨#[108, 111, 103]⟩ [UInt8.ofNat (u8N folder)] _ _ _ (by decide) (by decide) (by decide) _ _ hS.fz hg hk1) (fun v5 w hR a hF => ?_))
  obtain ⟨rfl, hc⟩ := hR
  replace hS := hS.call0 hc
  refine hK5 _ _ ?_
  refine n_l rfl (fun K6 hK6 => l_store0A ty35 hF hS rfl rfl (i := 0) rfl (by simp [dc_length, Hd.c_len, En.c_len, List.length_replicate, List.length_cons, List.length_nil, List.length_append]) (by simp [dc_length, Hd.c_len, En.c_len, List.length_replicate, List.length_cons, List.length_nil, List.length_append]) (by first | exact dc_all1 _ | rfl | simp [all1]) (fun a w hF hS => hK6 _ _ ?_))
  refine hK3 _ _ ?_
  refine c_seq (fun K7 hK7 => ?_)
  refine c_seq (fun K8 hK8 => ?_)
  refine c_reg ?_
  refine n_q hF hS (q_move rfl) rfl (fun a hF => ?_)
  refine n_q hF hS (q_len Tryd.underlying45 rfl rfl) rfl (fun a hF => ?_)
  refine n_q hF hS (q_move rfl) rfl (fun a hF => ?_)
  refine hK8 _ _ ?_
  refine c_block ?_
  refine c_loopL hF [6, 13, 14, 15, 16, 17, 18, 19, 20]
    (fun k : Nat => [(13, .int .i64 (k : Int))])
    (fun k => [⟨b1, dc (chainK folder ds k), 35⟩])
    (fun k _ => k ≤ ds.length)
    (fun k => ds.length - k) (0) ⟨rfl, trivial⟩ (hS) (Nat.zero_le _) ?_
  clear hF hS
  intro k a w H hle hF hS hJ
  replace hr := hr.mono hle
  replace hg := hg.mono hle
  replace r1_2 := r1_2.mono hle
  have hl0 := Le.refl H
  try dsimp only at hF hJ hS
  refine c_seq (fun K9 hK9 => ?_)
  refine c_reg ?_
  refine n_q hF hS (q_lss rfl rfl) rfl (fun a hF => ?_)
  refine hK9 _ _ ?_
  refine c_seq (fun K10 hK10 => ?_)
  refine spd hF (s := 14) rfl (fun hc14 hF => ?_) (fun hc14 hF => ?_)
  refine c_true hF rfl ?_
  refine wp_skip ?_
  refine hK10 _ _ ?_
  refine c_seq (fun K11 hK11 => ?_)
  refine c_block ?_
  refine c_seq (fun K12 hK12 => ?_)
  refine c_reg ?_
  have hlt : k < ds.length := by omega
  have hel : (dgE ds)[k]? = some (dc ds[k]) := by simp [dgE, hlt]
  refine n_q hF hS (q_indexAddrS Tryd.underlying45 ty35 rfl rfl (by omega) (hr.some (by simp [dgE]; omega))) rfl (fun a hF => ?_)
  refine n_q hF hS (q_loadL0 (v := .agg (dc ds[k]).toArray) ty35 rfl hr hel (by decide) rfl (by simp only [ldv, cond_true, List.drop_zero]; rw [List.take_of_length_le (by rw [dc_length]; exact Nat.le_refl _)])) rfl (fun a hF => ?_)
  refine n_l rfl (fun K13 hK13 => l_alloc hF hS zr35 rfl (fun a w b3 hF hS => hK13 _ _ ?_))
  refine n_l rfl (fun K14 hK14 => l_store0A ty35 hF hS rfl rfl (i := 0) rfl (by simp [dc_length, Hd.c_len, En.c_len, List.length_replicate, List.length_cons, List.length_nil, List.length_append]) (by simp [dc_length, Hd.c_len, En.c_len, List.length_replicate, List.length_cons, List.length_nil, List.length_append]) (by first | exact dc_all1 _ | rfl | simp [all1]) (fun a w hF hS => hK14 _ _ ?_))
  refine hK12 _ _ ?_
  refine c_reg ?_
  refine n_q hF hS (q_load0 ty35 rfl (i := 1) rfl (by simp [dc_length, Hd.c_len, En.c_len, List.length_replicate, List.length_cons, List.length_nil, List.length_append]) rfl) rfl (fun a hF => ?_)
  refine n_q hF hS (q_load0 ty35 rfl (i := 0) rfl (by simp [dc_length, Hd.c_len, En.c_len, List.length_replicate, List.length_cons, List.length_nil, List.length_append]) rfl) rfl (fun a hF => ?_)
  refine n_l rfl (fun K15 hK15 => l_call en19 hF rfl rfl (DChain_c (chainK folder ds k) ds[k] _ _ hS.fz hg) (fun v15 w hR a hF => ?_))
  obtain ⟨rfl, hc⟩ := hR
  replace hS := hS.call0 hc
  refine hK15 _ _ ?_
  refine n_l rfl (fun K16 hK16 => l_store0A ty35 hF hS rfl rfl (i := 1) rfl (by simp [dc_length, Hd.c_len, En.c_len, List.length_replicate, List.length_cons, List.length_nil, List.length_append]) (by simp [dc_length, Hd.c_len, En.c_len, List.length_replicate, List.length_cons, List.length_nil, List.length_append]) (by first | exact dc_all1 _ | rfl | simp [all1]) (fun a w hF hS => hK16 _ _ ?_))
  refine hK11 _ _ ?_
  refine c_reg ?_
  refine n_q hF hS (q_addI rfl rfl (by omega)) rfl (fun a hF => ?_)
  refine n_q hF hS (q_move rfl) rfl (fun a hF => ?_)
  exact ⟨k + 1, _, (by show ds.length - (k + 1) < ds.length - k; omega), hl0, hF.back ⟨rfl, trivial⟩ rfl (by repeat first | exact Ext.refl _ _ | refine Ext.rem' rfl ?_ | refine Ext.push rfl ?_), (by rw [chainK_succ hlt]; exact hS.lose (.cons _ (.refl _))), (by omega)⟩
  refine c_false hF rfl ?_
  refine c_exit ?_
  refine hK7 _ _ ?_
  refine c_seq (fun K17 hK17 => ?_)
  refine c_reg ?_
  refine n_q hF hS (q_load0 ty35 rfl (i := 0) rfl (by simp [dc_length, Hd.c_len, En.c_len, List.length_replicate, List.length_cons, List.length_nil, List.length_append]) rfl) rfl (fun a hF => ?_)
  refine n_l rfl (fun K18 hK18 => l_store0A ty35 hF hS rfl rfl (i := 0) rfl (by simp [dc_length, Hd.c_len, En.c_len, List.length_replicate, List.length_cons, List.length_nil, List.length_append]) (by simp [dc_length, Hd.c_len, En.c_len, List.length_replicate, List.length_cons, List.length_nil, List.length_append]) (by first | exact dc_all1 _ | rfl | simp [all1]) (fun a w hF hS => hK18 _ _ ?_))
  refine hK17 _ _ ?_
  refine c_ret ?_
  repeat (first | refine ret_then ?_ | refine ret_blk ?_)
  refine c_ret' (P := Tryd.prog) (fn := Tryd.f18) rfl hF hS (.cell0 rfl ty35 (i := 0) rfl (by simp [dc_length, Hd.c_len, En.c_len, List.length_replicate, List.length_cons, List.length_nil, List.length_append]) rfl .nil) ⟨_, rfl, ?_⟩
  have hke : chainK folder ds k = chainN folder ds := by rw [show k = ds.length by omega]; rfl
  exact ⟨by show Value.agg _ = _; rw [hke], hS.same⟩
end Go.Proofs.YtneokajhmonpaaaDoor

namespace Go.Proofs.YtneokajhmonpaaaDoor
open Go Go.RowKit Go.W
set_option maxRecDepth 10000
open Fx

theorem message1_c (n : Int) (w : World) (H : Froz) (hz : Fz H w) :
    CallsR Tryd.prog 89 [.int .i64 n] w fun v w' => v = .agg #[.int .i64 1, .int .i64 n, .string ⟨#[]⟩, .slice none 0 0] ∧ St ⟨w, H, []⟩ H [] w' := by
  refine calls_start Tryd.func89 rfl Tryd.ntmps89 rfl (fun a hF => ?_)
  have hS := St.start w H hz
  refine c_seq (fun K1 hK1 => ?_)
  refine c_reg ?_
  refine n_l rfl (fun K2 hK2 => l_alloc hF hS zr67 rfl (fun a w b1 hF hS => hK2 _ _ ?_))
  refine hK1 _ _ ?_
  refine c_seq (fun K3 hK3 => ?_)
  refine c_reg ?_
  refine n_q hF hS (q_move rfl) rfl (fun a hF => ?_)
  refine n_q hF hS (q_build (P := Tryd.prog) (T := 67) (cs := [_, _, _, _]) zr67 pl67 rfl (by first | rfl | simp [bld, spl, dc_length, Hd.c_len, En.c_len, List.length_replicate, List.length_cons, List.length_nil, List.length_append])) rfl (fun a hF => ?_)
  refine n_l rfl (fun K4 hK4 => l_store0A ty67 hF hS rfl rfl (i := 0) rfl rfl rfl rfl (fun a w hF hS => hK4 _ _ ?_))
  refine hK3 _ _ ?_
  refine c_ret ?_
  repeat (first | refine ret_then ?_ | refine ret_blk ?_)
  refine c_ret' (P := Tryd.prog) (fn := Tryd.f89) rfl hF hS (.cell0 rfl ty67 (i := 0) rfl rfl rfl .nil) ⟨_, rfl, ?_⟩
  exact ⟨rfl, hS.same⟩

theorem message_c (h : Hd) (w : World) (H : Froz) (hz : Fz H w) (hg : Gl 0 1 H) :
    CallsR Tryd.prog 52 [.agg h.c.toArray] w fun v w' => ∃ ad H', v = .slice ad 32 32 ∧ Le H H' ∧ RdS H' ad 32 1 (bc (msgN h).l) ∧ St ⟨w, H, []⟩ H' [] w' := by
  refine calls_start Tryd.func52 rfl Tryd.ntmps52 rfl (fun a hF => ?_)
  have hS := St.start w H hz
  refine c_seq (fun K1 hK1 => ?_)
  refine c_reg ?_
  refine n_l rfl (fun K2 hK2 => l_boxA hF hS rfl rfl (fun a w b1 hF hS => hK2 _ _ ?_))
  refine n_q hF hS (q_assign rfl) rfl (fun a hF => ?_)
  refine hK1 _ _ ?_
  refine c_seq (fun K3 hK3 => ?_)
  refine c_reg ?_
  refine n_q hF hS (q_assign rfl) rfl (fun a hF => ?_)
  refine hK3 _ _ ?_
  refine c_seq (fun K4 hK4 => ?_)
  obtain ⟨H_hbx, hH_hbx, hle_hbx, hS_hbx⟩ := hS.freeze' (i := 0) rfl
  replace hS := hS_hbx
  replace hg := hg.mono hle_hbx
  have hbx : HR H_hbx b1 h.c := by rw [hH_hbx]; exact frz_hr
  refine r_start (fun L => L) [] mo hS (fun w hS => ?_)
  refine r_q (i := 0) rfl rfl hF hS (q_move rfl) rfl (fun a hF => ?_)
  refine r_q (i := 1) rfl rfl hF hS (q_fieldAddr fl39_0 (by decide) rfl) rfl (fun a hF => ?_)
  refine r_q (i := 2) rfl rfl hF hS (q_loadG (o := 0) (v := .int .i64 h.st) ty3 rfl hbx.h (by rw [Hd.c_len]; decide) rfl rfl) rfl (fun a hF => ?_)
  refine r_q (i := 4) rfl rfl hF hS (q_move rfl) rfl (fun a hF => ?_)
  refine r_q (i := 5) rfl rfl hF hS (q_fieldAddr fl39_1 (by decide) rfl) rfl (fun a hF => ?_)
  refine r_q (i := 6) rfl rfl hF hS (q_loadG (o := 0 + 1) (v := .int .i64 h.fo) ty3 rfl hbx.h (by rw [Hd.c_len]; decide) rfl rfl) rfl (fun a hF => ?_)
  refine r_q (i := 8) rfl rfl hF hS (q_move rfl) rfl (fun a hF => ?_)
  refine r_q (i := 9) rfl rfl hF hS (q_fieldAddr fl39_2 (by decide) rfl) rfl (fun a hF => ?_)
  refine r_q (i := 10) rfl rfl hF hS (q_loadG (o := 0 + 2) (v := .int .i64 h.no) ty3 rfl hbx.h (by rw [Hd.c_len]; decide) rfl rfl) rfl (fun a hF => ?_)
  refine r_q (i := 12) rfl rfl hF hS (q_fieldAddr fl39_3 (by decide) rfl) rfl (fun a hF => ?_)
  refine r_q (i := 13) rfl rfl hF hS (q_sliceA (n := 32) (l := 0) (h := 32) Tryd.underlying35 ty5 rfl rfl rfl (by decide)) rfl (fun a hF => ?_)
  refine r_q (i := 14) rfl rfl hF hS (q_convBSn (l := h.ch.l) Tryd.underlying46 Tryd.underlying5 Tryd.underlying9 rfl (Hd.rd_ch hbx)) rfl (fun a hF => ?_)
  refine r_q (i := 15) rfl rfl hF hS (q_build (P := Tryd.prog) (T := 67) (cs := [_, _, _, _]) zr67 pl67 rfl (by first | rfl | simp [bld, spl, dc_length, Hd.c_len, En.c_len, List.length_replicate, List.length_cons, List.length_nil, List.length_append])) rfl (fun a hF => ?_)
  refine r_one (i := 3) (by kernel_rfl) ?_
  have hsub := hS.sub
  refine r_li rfl rfl (fun K5 hK5 => l_callv en89 hF rfl rfl rfl (message1_c _ _ _ hS.fz) (fun v5 w hR a hF => ?_))
  obtain ⟨rfl, hc⟩ := hR
  replace hS := hS.call0 hc
  refine hK5 _ _ _ hS (fun _ h => h) ?_
  refine r_one (i := 7) (by kernel_rfl) ?_
  have hsub := hS.sub
  refine r_li rfl rfl (fun K6 hK6 => l_callv en89 hF rfl rfl rfl (message1_c _ _ _ hS.fz) (fun v6 w hR a hF => ?_))
  obtain ⟨rfl, hc⟩ := hR
  replace hS := hS.call0 hc
  refine hK6 _ _ _ hS (fun _ h => h) ?_
  refine r_one (i := 11) (by kernel_rfl) ?_
  have hsub := hS.sub
  refine r_li rfl rfl (fun K7 hK7 => l_callv en89 hF rfl rfl rfl (message1_c _ _ _ hS.fz) (fun v7 w hR a hF => ?_))
  obtain ⟨rfl, hc⟩ := hR
  replace hS := hS.call0 hc
  refine hK7 _ _ _ hS (fun _ h => h) ?_
  refine r_one (i := 16) (by kernel_rfl) ?_
  have hsub := hS.sub
  refine r_li rfl rfl (fun K8 hK8 => l_buildF (els := lfE [.i h.st, .i h.fo, .i h.no, .t (bstr h.ch.l)]) Tryd.underlying65 ty67 zr67 hF hS rfl rfl rfl (fun e he => by obtain ⟨l, _, rfl⟩ := List.mem_map.1 he; exact Lf.c_len l) rfl rfl rfl (fun a w b2 hF hle hS r2_16 => ?_))
  replace hg := hg.mono hle
  replace hbx := hbx.mono hle
  refine hK8 _ _ _ hS (fun _ h => h.forget hsub hle) ?_
  refine r_q (i := 17) rfl rfl hF hS (q_build (P := Tryd.prog) (T := 67) (cs := [_, _, _, _]) zr67 pl67 rfl (by first | rfl | simp [bld, spl, dc_length, Hd.c_len, En.c_len, List.length_replicate, List.length_cons, List.length_nil, List.length_append])) rfl (fun a hF => ?_)
  refine r_one (i := 18) (by kernel_rfl) ?_
  have hsub := hS.sub
  refine r_li rfl rfl (fun K9 hK9 => l_call en25 hF rfl rfl (Encode_c [.i h.st, .i h.fo, .i h.no, .t (bstr h.ch.l)] _ _ (by simp) (by simp) (by intro l hl; simp only [List.mem_cons, List.not_mem_nil, or_false] at hl; rcases hl with rfl | rfl | rfl | rfl <;> simp [Lf.z, bstr, ByteArray.size, h.ch.h]) _ _ hS.fz r2_16) (fun v9 w hR a hF => ?_))
  obtain ⟨ad, cp, Lx, rfl, ho, hc⟩ := hR
  obtain ⟨H4, hle4, hS4, hr4⟩ := ho.freeze (hS.call hc)
  replace hS := hS4
  have hcp := ho.le
  replace hg := hg.mono hle4
  refine hK9 _ _ _ hS (fun _ h => h.forget hsub hle4) ?_
  refine r_q (i := 19) rfl rfl hF hS (q_move rfl) rfl (fun a hF => ?_)
  refine r_q (i := 20) rfl rfl hF hS (q_extract (i := 0) rfl rfl) rfl (fun a hF => ?_)
  refine r_q (i := 21) rfl rfl hF hS (q_extract (i := 1) rfl rfl) rfl (fun a hF => ?_)
  refine r_q (i := 22) rfl rfl hF hS (q_assign rfl) rfl (fun a hF => ?_)
  refine r_q (i := 23) rfl rfl hF hS (q_assign rfl) rfl (fun a hF => ?_)
  refine r_done (by kernel_rfl) ?_
  refine hK4 _ _ ?_
  refine c_seq (fun K10 hK10 => ?_)
  refine c_reg ?_
  refine n_q hF hS (q_move rfl) rfl (fun a hF => ?_)
  refine n_l rfl (fun K11 hK11 => l_call en26 hF rfl rfl (Tagged_c ⟨#[104, 101, 97, 100]⟩ (encL [.i h.st, .i h.fo, .i h.no, .t (bstr h.ch.l)]) _ _ _ (by decide) (by have := encL_len4 h; omega) hcp _ _ hS.fz hg hr4) (fun v11 w hR a hF => ?_))
  obtain ⟨rfl, hc⟩ := hR
  replace hS := hS.call0 hc
  refine hK11 _ _ ?_
  refine n_l rfl (fun K12 hK12 => l_alloc hF hS zr35 rfl (fun a w b3 hF hS => hK12 _ _ ?_))
  refine n_l rfl (fun K13 hK13 => l_store0A ty35 hF hS rfl rfl (i := 0) rfl (by simp [dc_length, Hd.c_len, En.c_len, List.length_replicate, List.length_cons, List.length_nil, List.length_append]) (by simp [dc_length, Hd.c_len, En.c_len, List.length_replicate, List.length_cons, List.length_nil, List.length_append]) (by first | exact dc_all1 _ | rfl | simp [all1]) (fun a w hF hS => hK13 _ _ ?_))
  refine hK10 _ _ ?_
  refine c_seq (fun K14 hK14 => ?_)
  refine c_reg ?_
  refine n_q hF hS (q_sliceAll Tryd.underlying35 ty5 rfl (by decide)) rfl (fun a hF => ?_)
  refine n_q hF hS (q_assign rfl) rfl (fun a hF => ?_)
  refine hK14 _ _ ?_
  refine c_ret ?_
  repeat (first | refine ret_then ?_ | refine ret_blk ?_)
  refine c_ret' (P := Tryd.prog) (fn := Tryd.f52) rfl hF hS (.tmp rfl .nil) ⟨_, rfl, ?_⟩
  obtain ⟨H5, hH5, hle5, hS5⟩ := hS.freeze' (i := 0) rfl
  exact ⟨_, H5, rfl, hS5.le, by rw [hH5]; exact frz_dc _, hS5⟩

theorem New_c (id priv : Int) (w : World) (H : Froz) (hz : Fz H w) : CallsR Tryd.prog 43 [.int .i64 id, .int .i64 priv] w fun v w' => v = .tuple #[.agg #[.int .i64 (newP id priv).1, .int .i64 (newP id priv).2.1, .slice none 0 0], .int .i64 (newP id priv).2.2] ∧ St ⟨w, H, []⟩ H [] w' := by
  refine calls_start Tryd.func43 rfl Tryd.ntmps43 rfl (fun a hF => ?_)
  have hS := St.start w H hz
  have hS0 := hS
  refine c_seq (fun K1 hK1 => ?_)
  refine c_reg ?_
  refine n_l rfl (fun K2 hK2 => l_alloc hF hS zr26 rfl (fun a w b1 hF hS => hK2 _ _ ?_))
  refine n_q hF hS (q_assign rfl) rfl (fun a hF => ?_)
  refine hK1 _ _ ?_
  refine c_seq (fun K3 hK3 => ?_)
  refine c_seq (fun K4 hK4 => ?_)
  refine c_reg ?_
  refine n_q hF hS (q_move rfl) rfl (fun a hF => ?_)
  refine n_q hF hS (q_lss rfl rfl) rfl (fun a hF => ?_)
  refine n_q hF hS (q_move rfl) rfl (fun a hF => ?_)
  refine spd hF (s := 10) rfl (fun hc10 hF => ?_) (fun hc10 hF => ?_)
  refine n_no hF (b := true) rfl rfl rfl (fun a hF => ?_)
  refine n_no hF (b := true) rfl rfl rfl (fun a hF => ?_)
  refine n_q hF hS (q_pick (b := true) rfl rfl) rfl (fun a hF => ?_)
  refine hK4 _ _ ?_
  refine c_true hF rfl ?_
  refine c_seq (fun K5 hK5 => ?_)
  refine c_reg ?_
  refine n_q hF hS (q_load0 ty26 rfl (i := 0) rfl rfl rfl) rfl (fun a hF => ?_)
  refine n_l rfl (fun K6 hK6 => l_store0A ty26 hF hS rfl rfl (i := 0) rfl rfl rfl rfl (fun a w hF hS => hK6 _ _ ?_))
  refine n_q hF hS (q_assign rfl) rfl (fun a hF => ?_)
  refine hK5 _ _ ?_
  refine c_ret ?_
  repeat (first | refine ret_then ?_ | refine ret_blk ?_)
  refine c_ret' (P := Tryd.prog) (fn := Tryd.f43) rfl hF hS (.cell0 rfl ty26 (i := 0) rfl rfl rfl (.tmp rfl .nil)) ⟨_, rfl, ?_⟩
  refine ⟨?_, hS.same⟩
  rw [newP_a (by omega)]; rfl
  refine n_yes hF rfl ?_
  refine n_q hF hS (q_move rfl) rfl (fun a hF => ?_)
  refine n_yes hF rfl ?_
  refine n_q hF hS (q_geq rfl rfl) rfl (fun a hF => ?_)
  refine n_q hF hS (q_pick (b := false) rfl rfl) rfl (fun a hF => ?_)
  refine hK4 _ _ ?_
  refine spd hF (s := 13) rfl (fun hc13 hF => ?_) (fun hc13 hF => ?_)
  refine c_true hF rfl ?_
  refine c_seq (fun K7 hK7 => ?_)
  refine c_reg ?_
  refine n_q hF hS (q_load0 ty26 rfl (i := 0) rfl rfl rfl) rfl (fun a hF => ?_)
  refine n_l rfl (fun K8 hK8 => l_store0A ty26 hF hS rfl rfl (i := 0) rfl rfl rfl rfl (fun a w hF hS => hK8 _ _ ?_))
  refine n_q hF hS (q_assign rfl) rfl (fun a hF => ?_)
  refine hK7 _ _ ?_
  refine c_ret ?_
  repeat (first | refine ret_then ?_ | refine ret_blk ?_)
  refine c_ret' (P := Tryd.prog) (fn := Tryd.f43) rfl hF hS (.cell0 rfl ty26 (i := 0) rfl rfl rfl (.tmp rfl .nil)) ⟨_, rfl, ?_⟩
  refine ⟨?_, hS.same⟩
  rw [newP_a (by omega)]; rfl
  refine c_false hF rfl ?_
  refine wp_skip ?_
  refine hK3 _ _ ?_
  refine c_seq (fun K9 hK9 => ?_)
  refine c_seq (fun K10 hK10 => ?_)
  refine c_reg ?_
  refine n_q hF hS (q_move rfl) rfl (fun a hF => ?_)
  refine n_l rfl (fun K11 hK11 => l_call en16 hF rfl rfl (Public_c priv _ _ hS.fz) (fun v11 w hR a hF => ?_))
  obtain ⟨rfl, hc⟩ := hR
  replace hS := hS.call0 hc
  refine hK11 _ _ ?_
  refine n_q hF hS (q_move rfl) rfl (fun a hF => ?_)
  refine n_q hF hS (q_extract (i := 0) rfl rfl) rfl (fun a hF => ?_)
  refine n_q hF hS (q_extract (i := 1) rfl rfl) rfl (fun a hF => ?_)
  refine n_q hF hS (q_assign rfl) rfl (fun a hF => ?_)
  refine n_q hF hS (q_assign rfl) rfl (fun a hF => ?_)
  refine hK10 _ _ ?_
  refine c_seq (fun K12 hK12 => ?_)
  refine c_reg ?_
  refine n_q hF hS (q_move rfl) rfl (fun a hF => ?_)
  refine n_q hF hS (q_neI rfl rfl) rfl (fun a hF => ?_)
  refine hK12 _ _ ?_
  refine spn hF (s := 21) rfl (fun hc21 hF => ?_) (fun hc21 hF => ?_)
  refine c_true hF rfl ?_
  refine c_seq (fun K13 hK13 => ?_)
  refine c_reg ?_
  refine n_q hF hS (q_load0 ty26 rfl (i := 0) rfl rfl rfl) rfl (fun a hF => ?_)
  refine n_q hF hS (q_move rfl) rfl (fun a hF => ?_)
  refine n_l rfl (fun K14 hK14 => l_store0A ty26 hF hS rfl rfl (i := 0) rfl rfl rfl rfl (fun a w hF hS => hK14 _ _ ?_))
  refine n_q hF hS (q_assign rfl) rfl (fun a hF => ?_)
  refine hK13 _ _ ?_
  refine c_ret ?_
  repeat (first | refine ret_then ?_ | refine ret_blk ?_)
  refine c_ret' (P := Tryd.prog) (fn := Tryd.f43) rfl hF hS (.cell0 rfl ty26 (i := 0) rfl rfl rfl (.tmp rfl .nil)) ⟨_, rfl, ?_⟩
  obtain ⟨hb1, hb2⟩ := newP_b (id := id) (by omega) hc21
  refine ⟨?_, hS.same⟩
  rw [hb1]
  show Value.tuple #[_, .int .i64 (pubP priv).2] = _
  rw [hb2]
  refine c_false hF rfl ?_
  refine wp_skip ?_
  refine hK9 _ _ ?_
  refine c_seq (fun K15 hK15 => ?_)
  refine c_reg ?_
  refine n_q hF hS (q_move rfl) rfl (fun a hF => ?_)
  refine n_q hF hS (q_move rfl) rfl (fun a hF => ?_)
  refine n_q hF hS (q_build (P := Tryd.prog) (T := 26) (cs := [_, _, _]) zr26 pl26 rfl (by first | rfl | simp [bld, spl, dc_length, Hd.c_len, En.c_len, List.length_replicate, List.length_cons, List.length_nil, List.length_append])) rfl (fun a hF => ?_)
  refine n_l rfl (fun K16 hK16 => l_store0A ty26 hF hS rfl rfl (i := 0) rfl rfl rfl rfl (fun a w hF hS => hK16 _ _ ?_))
  refine n_q hF hS (q_assign rfl) rfl (fun a hF => ?_)
  refine hK15 _ _ ?_
  refine c_ret ?_
  repeat (first | refine ret_then ?_ | refine ret_blk ?_)
  refine c_ret' (P := Tryd.prog) (fn := Tryd.f43) rfl hF hS (.cell0 rfl ty26 (i := 0) rfl rfl rfl (.tmp rfl .nil)) ⟨_, rfl, ?_⟩
  refine ⟨?_, hS.same⟩
  rw [newP_c (by omega) hc21]; rfl

theorem SV_c (pub : Int) (h : Hd) (w : World) (H : Froz) (hz : Fz H w) (hg : Gl 0 1 H) :
    CallsR Tryd.prog 17 [.int .i64 pub, .agg h.c.toArray] w fun v w' => v = .bool (verS pub h) ∧ St ⟨w, H, []⟩ H [] w' := by
  refine calls_start Tryd.func17 rfl Tryd.ntmps17 rfl (fun a hF => ?_)
  have hS := St.start w H hz
  refine c_seq (fun K1 hK1 => ?_)
  refine c_reg ?_
  refine n_l rfl (fun K2 hK2 => l_boxA hF hS rfl rfl (fun a w b1 hF hS => hK2 _ _ ?_))
  refine n_q hF hS (q_assign rfl) rfl (fun a hF => ?_)
  refine hK1 _ _ ?_
  refine c_seq (fun K3 hK3 => ?_)
  obtain ⟨H_hbx, hH_hbx, hle_hbx, hS_hbx⟩ := hS.freeze' (i := 0) rfl
  replace hS := hS_hbx
  replace hg := hg.mono hle_hbx
  have hbx : HR H_hbx b1 h.c := by rw [hH_hbx]; exact frz_hr
  refine r_start (fun L => L) [] mo hS (fun w hS => ?_)
  refine r_q (i := 0) rfl rfl hF hS (q_fieldAddr fl39_0 (by decide) rfl) rfl (fun a hF => ?_)
  refine r_q (i := 1) rfl rfl hF hS (q_loadG (o := 0) (v := .int .i64 h.st) ty3 rfl hbx.h (by rw [Hd.c_len]; decide) rfl rfl) rfl (fun a hF => ?_)
  refine r_q (i := 2) rfl rfl hF hS (q_geq rfl rfl) rfl (fun a hF => ?_)
  refine r_q (i := 3) rfl rfl hF hS (q_move rfl) rfl (fun a hF => ?_)
  refine spd hF (s := 8) rfl (fun hc8 hF => ?_) (fun hc8 hF => ?_)
  refine r_qg (i := 4) rfl rfl hF hS rfl (q_fieldAddr fl39_0 (by decide) rfl) rfl (fun a hF => ?_)
  refine r_qg (i := 5) rfl rfl hF hS rfl (q_loadG (o := 0) (v := .int .i64 h.st) ty3 rfl hbx.h (by rw [Hd.c_len]; decide) rfl rfl) rfl (fun a hF => ?_)
  refine r_qg (i := 6) rfl rfl hF hS rfl (q_lss rfl rfl) rfl (fun a hF => ?_)
  refine r_q (i := 7) rfl rfl hF hS (q_pick (b := true) rfl rfl) rfl (fun a hF => ?_)
  refine r_q (i := 8) rfl rfl hF hS (q_move rfl) rfl (fun a hF => ?_)
  refine spd hF (s := 13) rfl (fun hc13 hF => ?_) (fun hc13 hF => ?_)
  refine r_qg (i := 9) rfl rfl hF hS rfl (q_fieldAddr fl39_1 (by decide) rfl) rfl (fun a hF => ?_)
  refine r_qg (i := 10) rfl rfl hF hS rfl (q_loadG (o := 0 + 1) (v := .int .i64 h.fo) ty3 rfl hbx.h (by rw [Hd.c_len]; decide) rfl rfl) rfl (fun a hF => ?_)
  refine r_one (i := 11) (by kernel_rfl) ?_
  have hsub := hS.sub
  refine r_lig rfl rfl hF rfl (fun K4 hK4 => l_call en44 hF rfl rfl (isFolder_c h.fo _ _ hS.fz) (fun v4 w hR a hF => ?_))
  obtain ⟨rfl, hc⟩ := hR
  replace hS := hS.call0 hc
  refine hK4 _ _ _ hS (fun _ h => h) ?_
  refine r_q (i := 12) rfl rfl hF hS (q_pick (b := true) rfl rfl) rfl (fun a hF => ?_)
  refine r_q (i := 13) rfl rfl hF hS (q_move rfl) rfl (fun a hF => ?_)
  refine spd hF (s := 18) rfl (fun hc18 hF => ?_) (fun hc18 hF => ?_)
  refine r_qg (i := 14) rfl rfl hF hS rfl (q_fieldAddr fl39_2 (by decide) rfl) rfl (fun a hF => ?_)
  refine r_qg (i := 15) rfl rfl hF hS rfl (q_loadG (o := 0 + 2) (v := .int .i64 h.no) ty3 rfl hbx.h (by rw [Hd.c_len]; decide) rfl rfl) rfl (fun a hF => ?_)
  refine r_qg (i := 16) rfl rfl hF hS rfl (q_geq rfl rfl) rfl (fun a hF => ?_)
  refine r_q (i := 17) rfl rfl hF hS (q_pick (b := true) rfl rfl) rfl (fun a hF => ?_)
  refine r_q (i := 18) rfl rfl hF hS (q_move rfl) rfl (fun a hF => ?_)
  refine spd hF (s := 23) rfl (fun hc23 hF => ?_) (fun hc23 hF => ?_)
  refine r_qg (i := 19) rfl rfl hF hS rfl (q_fieldAddr fl39_2 (by decide) rfl) rfl (fun a hF => ?_)
  refine r_qg (i := 20) rfl rfl hF hS rfl (q_loadG (o := 0 + 2) (v := .int .i64 h.no) ty3 rfl hbx.h (by rw [Hd.c_len]; decide) rfl rfl) rfl (fun a hF => ?_)
  refine r_qg (i := 21) rfl rfl hF hS rfl (q_leq rfl rfl) rfl (fun a hF => ?_)
  refine r_q (i := 22) rfl rfl hF hS (q_pick (b := true) rfl rfl) rfl (fun a hF => ?_)
  refine r_q (i := 23) rfl rfl hF hS (q_move rfl) rfl (fun a hF => ?_)
  refine spd hF (s := 28) rfl (fun hc28 hF => ?_) (fun hc28 hF => ?_)
  refine r_qg (i := 24) rfl rfl hF hS rfl (q_move rfl) rfl (fun a hF => ?_)
  refine r_qg (i := 25) rfl rfl hF hS rfl (q_loadG (o := 0) (v := .agg h.c.toArray) ty39 rfl hbx.h (by rw [Hd.c_len]; decide) rfl (Hd.ld_all h)) rfl (fun a hF => ?_)
  refine r_qg (i := 27) rfl rfl hF hS rfl (q_fieldAddr fl39_4 (by decide) rfl) rfl (fun a hF => ?_)
  refine r_qg (i := 28) rfl rfl hF hS rfl (q_loadG (o := 0 + 35) (v := .agg #[.int .i64 h.R, .int .i64 h.S]) ty37 rfl hbx.h (by rw [Hd.c_len]; decide) rfl (Hd.ld_sig h)) rfl (fun a hF => ?_)
  refine r_one (i := 26) (by kernel_rfl) ?_
  have hsub := hS.sub
  refine r_lig rfl rfl hF rfl (fun K5 hK5 => l_call en52 hF rfl rfl (message_c h _ _ hS.fz hg) (fun v5 w hR a hF => ?_))
  obtain ⟨ad, H4, rfl, hle4, hr4, hc⟩ := hR
  replace hS := hS.call hc
  replace hg := hg.mono hle4
  replace hbx := hbx.mono hle4
  refine hK5 _ _ _ hS (fun _ h => h.forget hsub hle4) ?_
  refine r_one (i := 29) (by kernel_rfl) ?_
  have hsub := hS.sub
  refine r_lig rfl rfl hF rfl (fun K6 hK6 => l_call en27 hF rfl rfl (SVerify_c pub (msgN h).l ad 32 32 h.R h.S (by decide) (by decide) _ _ hS.fz hg hr4) (fun v6 w hR a hF => ?_))
  obtain ⟨rfl, hc⟩ := hR
  replace hS := hS.call0 hc
  refine hK6 _ _ _ hS (fun _ h => h) ?_
  refine r_q (i := 30) rfl rfl hF hS (q_pick (b := true) rfl rfl) rfl (fun a hF => ?_)
  refine r_q (i := 31) rfl rfl hF hS (q_assign rfl) rfl (fun a hF => ?_)
  refine r_done (by kernel_rfl) ?_
  refine hK3 _ _ ?_
  refine c_ret ?_
  repeat (first | refine ret_then ?_ | refine ret_blk ?_)
  refine c_ret' (P := Tryd.prog) (fn := Tryd.f17) rfl hF hS (.tmp rfl .nil) ⟨_, rfl, ?_⟩
  refine ⟨?_, hS.same⟩
  show Value.bool _ = _
  rw [verS_yes (by omega) (by omega) (by omega)]
  refine r_no (b := false) (i := 24) rfl rfl hF hS rfl rfl rfl (fun a hF => ?_)
  refine r_no (b := false) (i := 25) rfl rfl hF hS rfl rfl rfl (fun a hF => ?_)
  refine r_no (b := false) (i := 26) rfl rfl hF hS rfl rfl rfl (fun a hF => ?_)
  refine r_no (b := false) (i := 27) rfl rfl hF hS rfl rfl rfl (fun a hF => ?_)
  refine r_no (b := false) (i := 28) rfl rfl hF hS rfl rfl rfl (fun a hF => ?_)
  refine r_no (b := false) (i := 29) rfl rfl hF hS rfl rfl rfl (fun a hF => ?_)
  refine r_q (i := 30) rfl rfl hF hS (q_pick (b := false) rfl rfl) rfl (fun a hF => ?_)
  refine r_q (i := 31) rfl rfl hF hS (q_assign rfl) rfl (fun a hF => ?_)
  refine r_done (by kernel_rfl) ?_
  refine hK3 _ _ ?_
  refine c_ret ?_
  repeat (first | refine ret_then ?_ | refine ret_blk ?_)
  refine c_ret' (P := Tryd.prog) (fn := Tryd.f17) rfl hF hS (.tmp rfl .nil) ⟨_, rfl, ?_⟩
  refine ⟨?_, hS.same⟩
  show Value.bool _ = _
  rw [verS_no (by omega)]
  refine r_no (b := false) (i := 19) rfl rfl hF hS rfl rfl rfl (fun a hF => ?_)
  refine r_no (b := false) (i := 20) rfl rfl hF hS rfl rfl rfl (fun a hF => ?_)
  refine r_no (b := false) (i := 21) rfl rfl hF hS rfl rfl rfl (fun a hF => ?_)
  refine r_q (i := 22) rfl rfl hF hS (q_pick (b := false) rfl rfl) rfl (fun a hF => ?_)
  refine r_q (i := 23) rfl rfl hF hS (q_move rfl) rfl (fun a hF => ?_)
  refine r_no (b := false) (i := 24) rfl rfl hF hS rfl rfl rfl (fun a hF => ?_)
  refine r_no (b := false) (i := 25) rfl rfl hF hS rfl rfl rfl (fun a hF => ?_)
  refine r_no (b := false) (i := 26) rfl rfl hF hS rfl rfl rfl (fun a hF => ?_)
  refine r_no (b := false) (i := 27) rfl rfl hF hS rfl rfl rfl (fun a hF => ?_)
  refine r_no (b := false) (i := 28) rfl rfl hF hS rfl rfl rfl (fun a hF => ?_)
  refine r_no (b := false) (i := 29) rfl rfl hF hS rfl rfl rfl (fun a hF => ?_)
  refine r_q (i := 30) rfl rfl hF hS (q_pick (b := false) rfl rfl) rfl (fun a hF => ?_)
  refine r_q (i := 31) rfl rfl hF hS (q_assign rfl) rfl (fun a hF => ?_)
  refine r_done (by kernel_rfl) ?_
  refine hK3 _ _ ?_
  refine c_ret ?_
  repeat (first | refine ret_then ?_ | refine ret_blk ?_)
  refine c_ret' (P := Tryd.prog) (fn := Tryd.f17) rfl hF hS (.tmp rfl .nil) ⟨_, rfl, ?_⟩
  refine ⟨?_, hS.same⟩
  show Value.bool _ = _
  rw [verS_no (by omega)]
  refine r_no (b := false) (i := 14) rfl rfl hF hS rfl rfl rfl (fun a hF => ?_)
  refine r_no (b := false) (i := 15) rfl rfl hF hS rfl rfl rfl (fun a hF => ?_)
  refine r_no (b := false) (i := 16) rfl rfl hF hS rfl rfl rfl (fun a hF => ?_)
  refine r_q (i := 17) rfl rfl hF hS (q_pick (b := false) rfl rfl) rfl (fun a hF => ?_)
  refine r_q (i := 18) rfl rfl hF hS (q_move rfl) rfl (fun a hF => ?_)
  refine r_no (b := false) (i := 19) rfl rfl hF hS rfl rfl rfl (fun a hF => ?_)
  refine r_no (b := false) (i := 20) rfl rfl hF hS rfl rfl rfl (fun a hF => ?_)
  refine r_no (b := false) (i := 21) rfl rfl hF hS rfl rfl rfl (fun a hF => ?_)
  refine r_q (i := 22) rfl rfl hF hS (q_pick (b := false) rfl rfl) rfl (fun a hF => ?_)
  refine r_q (i := 23) rfl rfl hF hS (q_move rfl) rfl (fun a hF => ?_)
  refine r_no (b := false) (i := 24) rfl rfl hF hS rfl rfl rfl (fun a hF => ?_)
  refine r_no (b := false) (i := 25) rfl rfl hF hS rfl rfl rfl (fun a hF => ?_)
  refine r_no (b := false) (i := 26) rfl rfl hF hS rfl rfl rfl (fun a hF => ?_)
  refine r_no (b := false) (i := 27) rfl rfl hF hS rfl rfl rfl (fun a hF => ?_)
  refine r_no (b := false) (i := 28) rfl rfl hF hS rfl rfl rfl (fun a hF => ?_)
  refine r_no (b := false) (i := 29) rfl rfl hF hS rfl rfl rfl (fun a hF => ?_)
  refine r_q (i := 30) rfl rfl hF hS (q_pick (b := false) rfl rfl) rfl (fun a hF => ?_)
  refine r_q (i := 31) rfl rfl hF hS (q_assign rfl) rfl (fun a hF => ?_)
  refine r_done (by kernel_rfl) ?_
  refine hK3 _ _ ?_
  refine c_ret ?_
  repeat (first | refine ret_then ?_ | refine ret_blk ?_)
  refine c_ret' (P := Tryd.prog) (fn := Tryd.f17) rfl hF hS (.tmp rfl .nil) ⟨_, rfl, ?_⟩
  refine ⟨?_, hS.same⟩
  show Value.bool _ = _
  rw [verS_no (by omega)]
  refine r_no (b := false) (i := 9) rfl rfl hF hS rfl rfl rfl (fun a hF => ?_)
  refine r_no (b := false) (i := 10) rfl rfl hF hS rfl rfl rfl (fun a hF => ?_)
  refine r_no (b := false) (i := 11) rfl rfl hF hS rfl rfl rfl (fun a hF => ?_)
  refine r_q (i := 12) rfl rfl hF hS (q_pick (b := false) rfl rfl) rfl (fun a hF => ?_)
  refine r_q (i := 13) rfl rfl hF hS (q_move rfl) rfl (fun a hF => ?_)
  refine r_no (b := false) (i := 14) rfl rfl hF hS rfl rfl rfl (fun a hF => ?_)
  refine r_no (b := false) (i := 15) rfl rfl hF hS rfl rfl rfl (fun a hF => ?_)
  refine r_no (b := false) (i := 16) rfl rfl hF hS rfl rfl rfl (fun a hF => ?_)
  refine r_q (i := 17) rfl rfl hF hS (q_pick (b := false) rfl rfl) rfl (fun a hF => ?_)
  refine r_q (i := 18) rfl rfl hF hS (q_move rfl) rfl (fun a hF => ?_)
  refine r_no (b := false) (i := 19) rfl rfl hF hS rfl rfl rfl (fun a hF => ?_)
  refine r_no (b := false) (i := 20) rfl rfl hF hS rfl rfl rfl (fun a hF => ?_)
  refine r_no (b := false) (i := 21) rfl rfl hF hS rfl rfl rfl (fun a hF => ?_)
  refine r_q (i := 22) rfl rfl hF hS (q_pick (b := false) rfl rfl) rfl (fun a hF => ?_)
  refine r_q (i := 23) rfl rfl hF hS (q_move rfl) rfl (fun a hF => ?_)
  refine r_no (b := false) (i := 24) rfl rfl hF hS rfl rfl rfl (fun a hF => ?_)
  refine r_no (b := false) (i := 25) rfl rfl hF hS rfl rfl rfl (fun a hF => ?_)
  refine r_no (b := false) (i := 26) rfl rfl hF hS rfl rfl rfl (fun a hF => ?_)
  refine r_no (b := false) (i := 27) rfl rfl hF hS rfl rfl rfl (fun a hF => ?_)
  refine r_no (b := false) (i := 28) rfl rfl hF hS rfl rfl rfl (fun a hF => ?_)
  refine r_no (b := false) (i := 29) rfl rfl hF hS rfl rfl rfl (fun a hF => ?_)
  refine r_q (i := 30) rfl rfl hF hS (q_pick (b := false) rfl rfl) rfl (fun a hF => ?_)
  refine r_q (i := 31) rfl rfl hF hS (q_assign rfl) rfl (fun a hF => ?_)
  refine r_done (by kernel_rfl) ?_
  refine hK3 _ _ ?_
  refine c_ret ?_
  repeat (first | refine ret_then ?_ | refine ret_blk ?_)
  refine c_ret' (P := Tryd.prog) (fn := Tryd.f17) rfl hF hS (.tmp rfl .nil) ⟨_, rfl, ?_⟩
  refine ⟨?_, hS.same⟩
  show Value.bool _ = _
  rw [verS_no (by omega)]
  refine r_no (b := false) (i := 4) rfl rfl hF hS rfl rfl rfl (fun a hF => ?_)
  refine r_no (b := false) (i := 5) rfl rfl hF hS rfl rfl rfl (fun a hF => ?_)
  refine r_no (b := false) (i := 6) rfl rfl hF hS rfl rfl rfl (fun a hF => ?_)
  refine r_q (i := 7) rfl rfl hF hS (q_pick (b := false) rfl rfl) rfl (fun a hF => ?_)
  refine r_q (i := 8) rfl rfl hF hS (q_move rfl) rfl (fun a hF => ?_)
  refine r_no (b := false) (i := 9) rfl rfl hF hS rfl rfl rfl (fun a hF => ?_)
  refine r_no (b := false) (i := 10) rfl rfl hF hS rfl rfl rfl (fun a hF => ?_)
  refine r_no (b := false) (i := 11) rfl rfl hF hS rfl rfl rfl (fun a hF => ?_)
  refine r_q (i := 12) rfl rfl hF hS (q_pick (b := false) rfl rfl) rfl (fun a hF => ?_)
  refine r_q (i := 13) rfl rfl hF hS (q_move rfl) rfl (fun a hF => ?_)
  refine r_no (b := false) (i := 14) rfl rfl hF hS rfl rfl rfl (fun a hF => ?_)
  refine r_no (b := false) (i := 15) rfl rfl hF hS rfl rfl rfl (fun a hF => ?_)
  refine r_no (b := false) (i := 16) rfl rfl hF hS rfl rfl rfl (fun a hF => ?_)
  refine r_q (i := 17) rfl rfl hF hS (q_pick (b := false) rfl rfl) rfl (fun a hF => ?_)
  refine r_q (i := 18) rfl rfl hF hS (q_move rfl) rfl (fun a hF => ?_)
  refine r_no (b := false) (i := 19) rfl rfl hF hS rfl rfl rfl (fun a hF => ?_)
  refine r_no (b := false) (i := 20) rfl rfl hF hS rfl rfl rfl (fun a hF => ?_)
  refine r_no (b := false) (i := 21) rfl rfl hF hS rfl rfl rfl (fun a hF => ?_)
  refine r_q (i := 22) rfl rfl hF hS (q_pick (b := false) rfl rfl) rfl (fun a hF => ?_)
  refine r_q (i := 23) rfl rfl hF hS (q_move rfl) rfl (fun a hF => ?_)
  refine r_no (b := false) (i := 24) rfl rfl hF hS rfl rfl rfl (fun a hF => ?_)
  refine r_no (b := false) (i := 25) rfl rfl hF hS rfl rfl rfl (fun a hF => ?_)
  refine r_no (b := false) (i := 26) rfl rfl hF hS rfl rfl rfl (fun a hF => ?_)
  refine r_no (b := false) (i := 27) rfl rfl hF hS rfl rfl rfl (fun a hF => ?_)
  refine r_no (b := false) (i := 28) rfl rfl hF hS rfl rfl rfl (fun a hF => ?_)
  refine r_no (b := false) (i := 29) rfl rfl hF hS rfl rfl rfl (fun a hF => ?_)
  refine r_q (i := 30) rfl rfl hF hS (q_pick (b := false) rfl rfl) rfl (fun a hF => ?_)
  refine r_q (i := 31) rfl rfl hF hS (q_assign rfl) rfl (fun a hF => ?_)
  refine r_done (by kernel_rfl) ?_
  refine hK3 _ _ ?_
  refine c_ret ?_
  repeat (first | refine ret_then ?_ | refine ret_blk ?_)
  refine c_ret' (P := Tryd.prog) (fn := Tryd.f17) rfl hF hS (.tmp rfl .nil) ⟨_, rfl, ?_⟩
  refine ⟨?_, hS.same⟩
  show Value.bool _ = _
  rw [verS_no (by omega)]
end Go.Proofs.YtneokajhmonpaaaDoor

