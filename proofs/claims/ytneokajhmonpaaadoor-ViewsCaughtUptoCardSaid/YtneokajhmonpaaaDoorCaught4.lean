import Derived.Test.YtneokajhmonpaaaDoorCaught3
import Derived.Test.YtneokajhmonpaaaDoorChecked
import Derived.Lib.SlBytesConst
/- A part of the proofs of the statements about the chartroom program (YtneokajhmonpaaaDoor): the walk and the plain law. -/
set_option linter.unusedSimpArgs false
set_option linter.unusedVariables false
namespace Go.Proofs.YtneokajhmonpaaaDoor
open Go Go.RowKit Go.W
set_option maxRecDepth 10000
open Fx

theorem fine_c (es : List En) (al : Option Addr) (cl : Nat) (hn : es.length ≤ 1000000) (w : World) (Hb : Froz) (hz : Fz Hb w) (hg : Gl 0 1 Hb) (hr : RdL Hb al 35 (enE es)) (ho : EnsOK Hb es) :
    CallsR Tryd.prog 45 [.slice al es.length cl] w fun v w' => v = .bool (fineN es) ∧ St ⟨w, Hb, []⟩ Hb [] w' := by
  refine calls_start Tryd.func45 rfl Tryd.ntmps45 rfl (fun a hF => ?_)
  have hS := St.start w Hb hz
  refine c_seq (fun K1 hK1 => ?_)
  refine c_reg ?_
  refine n_q hF hS (q_assign rfl) rfl (fun a hF => ?_)
  refine hK1 _ _ ?_
  refine c_seq (fun K2 hK2 => ?_)
  refine c_reg ?_
  refine n_l rfl (fun K3 hK3 => l_makeMap hF hS rfl (fun a w H_m bm hle_m hnb hmp hF hS => hK3 _ _ ?_))
  refine n_q hF hS (q_assign rfl) rfl (fun a hF => ?_)
  refine hK2 _ _ ?_
  refine c_seq (fun K4 hK4 => ?_)
  refine c_seq (fun K5 hK5 => ?_)
  refine c_reg ?_
  refine n_q hF hS (q_move rfl) rfl (fun a hF => ?_)
  refine n_q hF hS (q_len Tryd.underlying31 rfl rfl) rfl (fun a hF => ?_)
  refine n_q hF hS (q_move rfl) rfl (fun a hF => ?_)
  refine hK5 _ _ ?_
  refine c_block ?_
  refine c_loopB Hb hF [2, 5, 9, 10, 11, 12, 13, 14, 15, 16, 17, 18, 19, 20, 21, 22, 23, 24, 25, 26, 27, 28, 29, 30, 31, 32, 33, 34, 35, 36, 37, 38, 39, 40, 41, 42, 43, 44, 45, 46, 47, 48]
    (fun k : Nat => [(9, .int .i64 (k : Int))])
    (fun _ => [])
    (fun k H => k ≤ es.length ∧ (∀ e ∈ es.take k, okE e = true) ∧ ((es.take k).map En.dg).Nodup ∧ MP H bm ((es.take k).map En.dg))
    (fun k => es.length - k) (0) ⟨rfl, trivial⟩ (hS) (⟨Nat.zero_le _, by simp, by simp, by simpa using hmp⟩) (hle_m) ?_
  clear hF hS
  intro k a w H hle hF hS hJ
  have hl0 := Le.refl H
  clear hmp
  obtain ⟨hk, hJo, hJn, hmp⟩ := hJ
  try dsimp only at hF hS hk
  have hr1 := hr.mono hle
  have hg1 := hg.mono hle
  have ho1 := ho.mono hle
  refine c_seq (fun K6 hK6 => ?_)
  refine c_reg ?_
  refine n_q hF hS (q_lss rfl rfl) rfl (fun a hF => ?_)
  refine hK6 _ _ ?_
  refine c_seq (fun K7 hK7 => ?_)
  refine spd hF (s := 10) rfl (fun hc10 hF => ?_) (fun hc10 hF => ?_)
  refine c_true hF rfl ?_
  refine wp_skip ?_
  refine hK7 _ _ ?_
  refine c_seq (fun K8 hK8 => ?_)
  refine c_block ?_
  refine c_seq (fun K9 hK9 => ?_)
  refine c_reg ?_
  have hlt : k < es.length := by omega
  obtain ⟨e, hed⟩ : ∃ q, q = es[k] := ⟨_, rfl⟩
  have hel : (enE es)[k]? = some e.c := by simp [enE, hlt, hed]
  obtain ⟨hd1, hd2, hd3⟩ := ho1 e (by rw [hed]; exact List.getElem_mem hlt)
  refine n_q hF hS (q_indexAddrS Tryd.underlying31 ty48 rfl rfl (by omega) (hr1.some (by simp [enE]; omega))) rfl (fun a hF => ?_)
  refine n_q hF hS (q_loadL0 (v := .agg e.c.toArray) ty48 rfl hr1 hel (by decide) rfl (En.ld_all e)) rfl (fun a hF => ?_)
  refine n_l rfl (fun K10 hK10 => l_alloc hF hS zr48 rfl (fun a w b1 hF hS => hK10 _ _ ?_))
  refine n_l rfl (fun K11 hK11 => l_store0A ty48 hF hS rfl rfl (i := 0) rfl (by simp [dc_length, Hd.c_len, En.c_len, List.length_replicate, List.length_cons, List.length_nil, List.length_append]) (by simp [dc_length, Hd.c_len, En.c_len, List.length_replicate, List.length_cons, List.length_nil, List.length_append]) (En.c_all1 _) (fun a w hF hS => hK11 _ _ ?_))
  refine hK9 _ _ ?_
  refine c_seq (fun K12 hK12 => ?_)
  refine c_block ?_
  refine c_seq (fun K13 hK13 => ?_)
  refine c_reg ?_
  refine n_q hF hS (q_move rfl) rfl (fun a hF => ?_)
  refine n_q hF hS (q_fieldAddr fl48_1 (by decide) rfl) rfl (fun a hF => ?_)
  refine n_q hF hS (q_load ty35 rfl (i := 0) rfl (by simp [dc_length, Hd.c_len, En.c_len, List.length_replicate, List.length_cons, List.length_nil, List.length_append]) rfl (En.ld_dg e)) rfl (fun a hF => ?_)
  refine n_q hF hS (q_lookupDg (dg := e.dg) Tryd.underlying143 Tryd.underlying35 Tryd.underlying5 ty5 (by kernel_rfl) rfl rfl hmp) rfl (fun a hF => ?_)
  refine n_q hF hS (q_assign rfl) rfl (fun a hF => ?_)
  refine hK13 _ _ ?_
  refine spd hF (s := 13) rfl (fun hc13 hF => ?_) (fun hc13 hF => ?_)
  refine c_true hF rfl ?_
  refine c_seq (fun K14 hK14 => ?_)
  refine c_reg ?_
  refine n_q hF hS (q_assign rfl) rfl (fun a hF => ?_)
  refine hK14 _ _ ?_
  refine c_ret ?_
  repeat (first | refine ret_then ?_ | refine ret_blk ?_)
  refine c_ret' (P := Tryd.prog) (fn := Tryd.f45) rfl hF hS (.tmp rfl .nil) ⟨_, rfl, ?_⟩
  refine ⟨?_, hS.same⟩
  show Value.bool false = _
  rw [fineN_dup hlt (by rw [← hed]; exact hc13)]
  refine c_false hF rfl ?_
  refine c_seq (fun K15 hK15 => ?_)
  refine c_reg ?_
  refine n_q hF hS (q_fieldAddr fl48_3 (by decide) rfl) rfl (fun a hF => ?_)
  refine n_q hF hS (q_load ty4 rfl (i := 0) rfl (by simp [dc_length, Hd.c_len, En.c_len, List.length_replicate, List.length_cons, List.length_nil, List.length_append]) rfl (En.ld_go e)) rfl (fun a hF => ?_)
  refine n_q hF hS (q_assign rfl) rfl (fun a hF => ?_)
  refine hK15 _ _ ?_
  refine sp hF (s := 18) rfl (fun hc18 hF => ?_) (fun hc18 hF => ?_)
  refine c_true hF rfl ?_
  refine c_seq (fun K16 hK16 => ?_)
  refine c_reg ?_
  refine n_q hF hS (q_fieldAddr fl48_0 (by decide) rfl) rfl (fun a hF => ?_)
  refine n_q hF hS (q_load ty3 rfl (i := 0) rfl (by simp [dc_length, Hd.c_len, En.c_len, List.length_replicate, List.length_cons, List.length_nil, List.length_append]) rfl rfl) rfl (fun a hF => ?_)
  refine n_q hF hS (q_neI rfl rfl) rfl (fun a hF => ?_)
  refine n_q hF hS (q_move rfl) rfl (fun a hF => ?_)
  refine spn hF (s := 24) rfl (fun hc24 hF => ?_) (fun hc24 hF => ?_)
  refine n_no hF (b := true) rfl rfl rfl (fun a hF => ?_)
  refine n_no hF (b := true) rfl rfl rfl (fun a hF => ?_)
  refine n_no hF (b := true) rfl rfl rfl (fun a hF => ?_)
  refine n_no hF (b := true) rfl rfl rfl (fun a hF => ?_)
  refine n_q hF hS (q_pick (b := true) rfl rfl) rfl (fun a hF => ?_)
  refine hK16 _ _ ?_
  refine c_true hF rfl ?_
  refine c_seq (fun K17 hK17 => ?_)
  refine c_reg ?_
  refine n_q hF hS (q_assign rfl) rfl (fun a hF => ?_)
  refine hK17 _ _ ?_
  refine c_ret ?_
  repeat (first | refine ret_then ?_ | refine ret_blk ?_)
  refine c_ret' (P := Tryd.prog) (fn := Tryd.f45) rfl hF hS (.tmp rfl .nil) ⟨_, rfl, ?_⟩
  refine ⟨?_, hS.same⟩
  show Value.bool false = _
  rw [fineN_bad hlt (by rw [← hed]; first | exact okE_gone_no hc18 (by omega) | exact okE_live_no hc18 (by omega) | exact okE_live_no2 hc18 hc43)]
  refine n_yes hF rfl ?_
  refine n_q hF hS (q_fieldAddr fl48_2 (by decide) rfl) rfl (fun a hF => ?_)
  refine n_yes hF rfl ?_
  refine n_q hF hS (q_load ty46 rfl (i := 0) rfl (by simp [dc_length, Hd.c_len, En.c_len, List.length_replicate, List.length_cons, List.length_nil, List.length_append]) rfl (En.ld_da e)) rfl (fun a hF => ?_)
  refine n_yes hF rfl ?_
  refine n_q hF hS (q_len Tryd.underlying46 rfl rfl) rfl (fun a hF => ?_)
  refine n_yes hF rfl ?_
  refine n_q hF hS (q_gtr rfl rfl) rfl (fun a hF => ?_)
  refine n_q hF hS (q_pick (b := false) rfl rfl) rfl (fun a hF => ?_)
  refine hK16 _ _ ?_
  refine spd hF (s := 29) rfl (fun hc29 hF => ?_) (fun hc29 hF => ?_)
  refine c_true hF rfl ?_
  refine c_seq (fun K18 hK18 => ?_)
  refine c_reg ?_
  refine n_q hF hS (q_assign rfl) rfl (fun a hF => ?_)
  refine hK18 _ _ ?_
  refine c_ret ?_
  repeat (first | refine ret_then ?_ | refine ret_blk ?_)
  refine c_ret' (P := Tryd.prog) (fn := Tryd.f45) rfl hF hS (.tmp rfl .nil) ⟨_, rfl, ?_⟩
  refine ⟨?_, hS.same⟩
  show Value.bool false = _
  rw [fineN_bad hlt (by rw [← hed]; first | exact okE_gone_no hc18 (by omega) | exact okE_live_no hc18 (by omega) | exact okE_live_no2 hc18 hc43)]
  refine c_false hF rfl ?_
  refine wp_skip ?_
  refine hK12 _ _ ?_
  refine c_reg ?_
  have hok : okE e = true := by first | exact okE_gone hc18 (by omega) (by omega) | exact okE_live hc18 (by omega) hc43
  refine n_q hF hS (q_move rfl) rfl (fun a hF => ?_)
  refine n_q hF hS (q_fieldAddr fl48_1 (by decide) rfl) rfl (fun a hF => ?_)
  refine n_q hF hS (q_load ty35 rfl (i := 0) rfl (by simp [dc_length, Hd.c_len, En.c_len, List.length_replicate, List.length_cons, List.length_nil, List.length_append]) rfl (En.ld_dg e)) rfl (fun a hF => ?_)
  refine n_l rfl (fun K19 hK19 => l_mapUpdateDg (Hb := Hb) Tryd.underlying143 Tryd.underlying35 Tryd.underlying5 ty5 hF hS rfl rfl rfl hmp hnb (by simp) hc13 hle hnb (fun a w H_u hle_u hmp_u hF hS => hK19 _ _ ?_))
  refine hK8 _ _ ?_
  refine c_reg ?_
  refine n_q hF hS (q_addI rfl rfl (by omega)) rfl (fun a hF => ?_)
  refine n_q hF hS (q_move rfl) rfl (fun a hF => ?_)
  exact ⟨k + 1, _, (by show es.length - (k + 1) < es.length - k; omega), hle_u, hF.back ⟨rfl, trivial⟩ rfl (by repeat first | exact Ext.refl _ _ | refine Ext.rem' rfl ?_ | refine Ext.push rfl ?_), hS.nil, ⟨by show k + 1 ≤ es.length; omega, ok_step hlt hJo (by rw [← hed]; exact hok), nodup_step hlt hJn (by rw [← hed]; exact hc13), by rw [take_dg hlt, ← hed]; exact hmp_u⟩⟩
  refine c_false hF rfl ?_
  refine c_seq (fun K20 hK20 => ?_)
  refine r_start (fun L => L) [] mo hS (fun w hS => ?_)
  refine r_q (i := 0) rfl rfl hF hS (q_fieldAddr fl48_0 (by decide) rfl) rfl (fun a hF => ?_)
  refine r_q (i := 1) rfl rfl hF hS (q_load ty3 rfl (i := 0) rfl (by simp [dc_length, Hd.c_len, En.c_len, List.length_replicate, List.length_cons, List.length_nil, List.length_append]) rfl rfl) rfl (fun a hF => ?_)
  refine r_one (i := 2) (by kernel_rfl) ?_
  have hsub := hS.sub
  refine r_li rfl rfl (fun K21 hK21 => l_call en56 hF rfl rfl (isKind_c e.kind _ _ hS.fz) (fun v21 w hR a hF => ?_))
  obtain ⟨rfl, hc⟩ := hR
  replace hS := hS.call0 hc
  refine hK21 _ _ _ hS (fun _ h => h) ?_
  refine r_q (i := 3) rfl rfl hF hS (q_not rfl) rfl (fun a hF => ?_)
  refine r_q (i := 4) rfl rfl hF hS (q_move rfl) rfl (fun a hF => ?_)
  refine spn hF (s := 35) rfl (fun hc35 hF => ?_) (fun hc35 hF => ?_)
  refine r_no (b := true) (i := 5) rfl rfl hF hS rfl rfl rfl (fun a hF => ?_)
  refine r_no (b := true) (i := 6) rfl rfl hF hS rfl rfl rfl (fun a hF => ?_)
  refine r_no (b := true) (i := 7) rfl rfl hF hS rfl rfl rfl (fun a hF => ?_)
  refine r_no (b := true) (i := 8) rfl rfl hF hS rfl rfl rfl (fun a hF => ?_)
  refine r_no (b := true) (i := 9) rfl rfl hF hS rfl rfl rfl (fun a hF => ?_)
  refine r_no (b := true) (i := 10) rfl rfl hF hS rfl rfl rfl (fun a hF => ?_)
  refine r_no (b := true) (i := 11) rfl rfl hF hS rfl rfl rfl (fun a hF => ?_)
  refine r_no (b := true) (i := 12) rfl rfl hF hS rfl rfl rfl (fun a hF => ?_)
  refine r_q (i := 13) rfl rfl hF hS (q_pick (b := true) rfl rfl) rfl (fun a hF => ?_)
  refine r_q (i := 14) rfl rfl hF hS (q_assign rfl) rfl (fun a hF => ?_)
  refine r_done (by kernel_rfl) ?_
  refine hK20 _ _ ?_
  refine c_true hF rfl ?_
  refine c_seq (fun K22 hK22 => ?_)
  refine c_reg ?_
  refine n_q hF hS (q_assign rfl) rfl (fun a hF => ?_)
  refine hK22 _ _ ?_
  refine c_ret ?_
  repeat (first | refine ret_then ?_ | refine ret_blk ?_)
  refine c_ret' (P := Tryd.prog) (fn := Tryd.f45) rfl hF hS (.tmp rfl .nil) ⟨_, rfl, ?_⟩
  refine ⟨?_, hS.same⟩
  show Value.bool false = _
  rw [fineN_bad hlt (by rw [← hed]; first | exact okE_gone_no hc18 (by omega) | exact okE_live_no hc18 (by omega) | exact okE_live_no2 hc18 hc43)]
  refine r_qg (i := 5) rfl rfl hF hS rfl (q_fieldAddr fl48_1 (by decide) rfl) rfl (fun a hF => ?_)
  refine r_qg (i := 6) rfl rfl hF hS rfl (q_load ty35 rfl (i := 0) rfl (by simp [dc_length, Hd.c_len, En.c_len, List.length_replicate, List.length_cons, List.length_nil, List.length_append]) rfl (En.ld_dg e)) rfl (fun a hF => ?_)
  refine r_qg (i := 7) rfl rfl hF hS rfl (q_fieldAddr fl48_0 (by decide) rfl) rfl (fun a hF => ?_)
  refine r_qg (i := 8) rfl rfl hF hS rfl (q_load ty3 rfl (i := 0) rfl (by simp [dc_length, Hd.c_len, En.c_len, List.length_replicate, List.length_cons, List.length_nil, List.length_append]) rfl rfl) rfl (fun a hF => ?_)
  refine r_qg (i := 9) rfl rfl hF hS rfl (q_fieldAddr fl48_2 (by decide) rfl) rfl (fun a hF => ?_)
  refine r_qg (i := 10) rfl rfl hF hS rfl (q_load ty46 rfl (i := 0) rfl (by simp [dc_length, Hd.c_len, En.c_len, List.length_replicate, List.length_cons, List.length_nil, List.length_append]) rfl (En.ld_da e)) rfl (fun a hF => ?_)
  refine r_one (i := 11) (by kernel_rfl) ?_
  have hsub := hS.sub
  refine r_lig rfl rfl hF rfl (fun K23 hK23 => l_call en22 hF rfl rfl (Digest_c e.kind e.bs e.da e.dn e.dp hd3 hd2 _ _ hS.fz hg1 hd1) (fun v23 w hR a hF => ?_))
  obtain ⟨rfl, hc⟩ := hR
  replace hS := hS.call0 hc
  refine hK23 _ _ _ hS (fun _ h => h) ?_
  refine r_qg (i := 12) rfl rfl hF hS rfl (q_neDg gu35 Tryd.underlying35 Tryd.underlying5 ty5 rfl rfl) rfl (fun a hF => ?_)
  refine r_q (i := 13) rfl rfl hF hS (q_pick (b := false) rfl rfl) rfl (fun a hF => ?_)
  refine r_q (i := 14) rfl rfl hF hS (q_assign rfl) rfl (fun a hF => ?_)
  refine r_done (by kernel_rfl) ?_
  refine hK20 _ _ ?_
  refine spn hF (s := 30) rfl (fun hc43 hF => ?_) (fun hc43 hF => ?_)
  refine c_true hF rfl ?_
  refine c_seq (fun K24 hK24 => ?_)
  refine c_reg ?_
  refine n_q hF hS (q_assign rfl) rfl (fun a hF => ?_)
  refine hK24 _ _ ?_
  refine c_ret ?_
  repeat (first | refine ret_then ?_ | refine ret_blk ?_)
  refine c_ret' (P := Tryd.prog) (fn := Tryd.f45) rfl hF hS (.tmp rfl .nil) ⟨_, rfl, ?_⟩
  refine ⟨?_, hS.same⟩
  show Value.bool false = _
  rw [fineN_bad hlt (by rw [← hed]; first | exact okE_gone_no hc18 (by omega) | exact okE_live_no hc18 (by omega) | exact okE_live_no2 hc18 hc43)]
  refine c_false hF rfl ?_
  refine wp_skip ?_
  refine hK12 _ _ ?_
  refine c_reg ?_
  have hok : okE e = true := by first | exact okE_gone hc18 (by omega) (by omega) | exact okE_live hc18 (by omega) hc43
  refine n_q hF hS (q_move rfl) rfl (fun a hF => ?_)
  refine n_q hF hS (q_fieldAddr fl48_1 (by decide) rfl) rfl (fun a hF => ?_)
  refine n_q hF hS (q_load ty35 rfl (i := 0) rfl (by simp [dc_length, Hd.c_len, En.c_len, List.length_replicate, List.length_cons, List.length_nil, List.length_append]) rfl (En.ld_dg e)) rfl (fun a hF => ?_)
  refine n_l rfl (fun K25 hK25 => l_mapUpdateDg (Hb := Hb) Tryd.underlying143 Tryd.underlying35 Tryd.underlying5 ty5 hF hS rfl rfl rfl hmp hnb (by simp) hc13 hle hnb (fun a w H_u hle_u hmp_u hF hS => hK25 _ _ ?_))
  refine hK8 _ _ ?_
  refine c_reg ?_
  refine n_q hF hS (q_addI rfl rfl (by omega)) rfl (fun a hF => ?_)
  refine n_q hF hS (q_move rfl) rfl (fun a hF => ?_)
  exact ⟨k + 1, _, (by show es.length - (k + 1) < es.length - k; omega), hle_u, hF.back ⟨rfl, trivial⟩ rfl (by repeat first | exact Ext.refl _ _ | refine Ext.rem' rfl ?_ | refine Ext.push rfl ?_), hS.nil, ⟨by show k + 1 ≤ es.length; omega, ok_step hlt hJo (by rw [← hed]; exact hok), nodup_step hlt hJn (by rw [← hed]; exact hc13), by rw [take_dg hlt, ← hed]; exact hmp_u⟩⟩
  refine c_false hF rfl ?_
  refine c_exit ?_
  refine hK4 _ _ ?_
  refine c_seq (fun K26 hK26 => ?_)
  refine c_reg ?_
  refine n_q hF hS (q_move rfl) rfl (fun a hF => ?_)
  refine n_q hF hS (q_len Tryd.underlying31 rfl rfl) rfl (fun a hF => ?_)
  refine n_q hF hS (q_gtr rfl rfl) rfl (fun a hF => ?_)
  refine n_q hF hS (q_move rfl) rfl (fun a hF => ?_)
  refine spd hF (s := 52) rfl (fun hc52 hF => ?_) (fun hc52 hF => ?_)
  refine n_yes hF rfl ?_
  refine n_q hF hS (q_move rfl) rfl (fun a hF => ?_)
  refine n_yes hF rfl ?_
  refine n_q hF hS (q_len Tryd.underlying31 rfl rfl) rfl (fun a hF => ?_)
  refine n_yes hF rfl ?_
  refine n_q hF hS (q_leq rfl rfl) rfl (fun a hF => ?_)
  refine n_q hF hS (q_pick (b := true) rfl rfl) rfl (fun a hF => ?_)
  refine n_q hF hS (q_assign rfl) rfl (fun a hF => ?_)
  refine hK26 _ _ ?_
  refine c_ret ?_
  repeat (first | refine ret_then ?_ | refine ret_blk ?_)
  refine c_ret' (P := Tryd.prog) (fn := Tryd.f45) rfl hF hS (.tmp rfl .nil) ⟨_, rfl, ?_⟩
  have hke : k = es.length := by omega
  rw [hke, List.take_length] at hJo hJn
  refine ⟨?_, hS.same⟩
  show Value.bool _ = _
  rw [fineN_all hJo hJn]
  congr 1
  first | (symm; apply decide_eq_decide.2; omega) | (apply decide_eq_decide.2; omega) | (symm; simp; omega) | (simp; omega)
  refine n_no hF (b := false) rfl rfl rfl (fun a hF => ?_)
  refine n_no hF (b := false) rfl rfl rfl (fun a hF => ?_)
  refine n_no hF (b := false) rfl rfl rfl (fun a hF => ?_)
  refine n_q hF hS (q_pick (b := false) rfl rfl) rfl (fun a hF => ?_)
  refine n_q hF hS (q_assign rfl) rfl (fun a hF => ?_)
  refine hK26 _ _ ?_
  refine c_ret ?_
  repeat (first | refine ret_then ?_ | refine ret_blk ?_)
  refine c_ret' (P := Tryd.prog) (fn := Tryd.f45) rfl hF hS (.tmp rfl .nil) ⟨_, rfl, ?_⟩
  have hke : k = es.length := by omega
  rw [hke, List.take_length] at hJo hJn
  refine ⟨?_, hS.same⟩
  show Value.bool _ = _
  rw [fineN_all hJo hJn]
  congr 1
  first | (symm; apply decide_eq_decide.2; omega) | (apply decide_eq_decide.2; omega) | (symm; simp; omega) | (simp; omega)
end Go.Proofs.YtneokajhmonpaaaDoor

namespace Go.Proofs.YtneokajhmonpaaaDoor
open Go Go.RowKit Go.W
set_option maxRecDepth 10000
open Fx

theorem SCheck_c (s : Sto) (w : World) (H : Froz) (hz : Fz H w) (hg : Gl 0 1 H) (ho : StOK H s) :
    CallsR Tryd.prog 13 [.agg s.c.toArray] w fun v w' => v = .int .i64 (checkN s) ∧ St ⟨w, H, []⟩ H [] w' := by
  refine calls_start Tryd.func13 rfl Tryd.ntmps13 rfl (fun a hF => ?_)
  have hS := St.start w H hz
  have hsl := ho.len
  refine c_seq (fun K1 hK1 => ?_)
  refine c_reg ?_
  refine n_l rfl (fun K2 hK2 => l_boxA hF hS rfl rfl (fun a w b1 hF hS => hK2 _ _ ?_))
  refine n_q hF hS (q_assign rfl) rfl (fun a hF => ?_)
  refine hK1 _ _ ?_
  refine c_seq (fun K3 hK3 => ?_)
  refine c_seq (fun K4 hK4 => ?_)
  refine c_reg ?_
  refine n_q hF hS (q_fieldAddr fl26_0 (by decide) rfl) rfl (fun a hF => ?_)
  refine n_q hF hS (q_load ty3 rfl (i := 0) rfl rfl rfl (show ldv false 1 s.c 0 = some (.int .i64 s.id) from rfl)) rfl (fun a hF => ?_)
  refine n_q hF hS (q_fieldAddr fl26_1 (by decide) rfl) rfl (fun a hF => ?_)
  refine n_q hF hS (q_load ty3 rfl (i := 0) rfl rfl rfl (show ldv false 1 s.c 1 = some (.int .i64 s.priv) from rfl)) rfl (fun a hF => ?_)
  refine n_l rfl (fun K5 hK5 => l_call en43 hF rfl rfl (New_c s.id s.priv _ _ hS.fz) (fun v5 w hR a hF => ?_))
  obtain ⟨rfl, hc⟩ := hR
  replace hS := hS.call0 hc
  refine hK5 _ _ ?_
  refine n_q hF hS (q_move rfl) rfl (fun a hF => ?_)
  refine n_q hF hS (q_extract (i := 0) rfl rfl) rfl (fun a hF => ?_)
  refine n_q hF hS (q_extract (i := 1) rfl rfl) rfl (fun a hF => ?_)
  refine n_l rfl (fun K6 hK6 => l_alloc hF hS zr26 rfl (fun a w b2 hF hS => hK6 _ _ ?_))
  refine n_l rfl (fun K7 hK7 => l_store0A ty26 hF hS rfl rfl (i := 0) rfl rfl rfl rfl (fun a w hF hS => hK7 _ _ ?_))
  refine n_q hF hS (q_assign rfl) rfl (fun a hF => ?_)
  refine hK4 _ _ ?_
  refine c_seq (fun K8 hK8 => ?_)
  refine c_reg ?_
  refine n_q hF hS (q_move rfl) rfl (fun a hF => ?_)
  refine n_q hF hS (q_neI rfl rfl) rfl (fun a hF => ?_)
  refine hK8 _ _ ?_
  refine spn hF (s := 16) rfl (fun hc16 hF => ?_) (fun hc16 hF => ?_)
  refine c_true hF rfl ?_
  refine c_seq (fun K9 hK9 => ?_)
  refine c_reg ?_
  refine n_q hF hS (q_assign rfl) rfl (fun a hF => ?_)
  refine hK9 _ _ ?_
  refine c_ret ?_
  repeat (first | refine ret_then ?_ | refine ret_blk ?_)
  refine c_ret' (P := Tryd.prog) (fn := Tryd.f13) rfl hF hS (.tmp rfl .nil) ⟨_, rfl, ?_⟩
  refine ⟨?_, hS.same⟩
  rw [checkN_new hc16]; rfl
  refine c_false hF rfl ?_
  refine wp_skip ?_
  refine hK3 _ _ ?_
  refine c_seq (fun K10 hK10 => ?_)
  refine c_seq (fun K11 hK11 => ?_)
  refine c_reg ?_
  obtain ⟨H_hbx, hH_hbx, hle_hbx, hS_hbx⟩ := hS.freeze' (i := 1) rfl
  replace hS := hS_hbx
  replace hg := hg.mono hle_hbx
  replace ho := ho.mono hle_hbx
  have hbx : HR H_hbx b1 s.c := by rw [hH_hbx]; exact frz_hr
  refine n_q hF hS (q_fieldAddr fl26_2 (by decide) rfl) rfl (fun a hF => ?_)
  refine n_q hF hS (q_loadG (o := 0 + 2) (v := .slice s.la s.logs.length s.lc) ty24 rfl hbx.h (Nat.le_of_ble_eq_true rfl) rfl rfl) rfl (fun a hF => ?_)
  refine n_q hF hS (q_len Tryd.underlying24 rfl rfl) rfl (fun a hF => ?_)
  refine n_q hF hS (q_move rfl) rfl (fun a hF => ?_)
  refine hK11 _ _ ?_
  refine c_block ?_
  obtain ⟨NB, hNB⟩ : ∃ NB, St _ _ [⟨b2, NB, 26⟩] _ := ⟨_, hS⟩
  clear hS
  have hS := hNB
  clear hNB
  refine c_loopL hF [2, 5, 6, 20, 21, 22, 23, 24, 25, 26, 27, 28, 29, 30, 31, 32, 33, 34, 35, 36, 37, 38, 39, 40, 41, 42, 43, 44, 45, 46, 47, 48, 49, 50, 51]
    (fun k : Nat => [(20, .int .i64 (k : Int))])
    (fun _ => [⟨b2, NB, 26⟩])
    (fun k _ => k ≤ s.logs.length ∧ ∀ j, j < k → lgB s.logs j = true)
    (fun k => s.logs.length - k) (0) ⟨rfl, trivial⟩ (hS) (⟨Nat.zero_le _, fun j h => absurd h (Nat.not_lt_zero _)⟩) ?_
  clear hF hS
  intro k a w H hle hF hS hJ
  replace hg := hg.mono hle
  replace ho := ho.mono hle
  replace hbx := hbx.mono hle
  have hl0 := Le.refl H
  obtain ⟨hk, hJ2⟩ := hJ
  try dsimp only at hF hS hk
  refine c_seq (fun K12 hK12 => ?_)
  refine c_reg ?_
  refine n_q hF hS (q_lss rfl rfl) rfl (fun a hF => ?_)
  refine hK12 _ _ ?_
  refine c_seq (fun K13 hK13 => ?_)
  refine spd hF (s := 21) rfl (fun hc21 hF => ?_) (fun hc21 hF => ?_)
  refine c_true hF rfl ?_
  refine wp_skip ?_
  refine hK13 _ _ ?_
  refine c_seq (fun K14 hK14 => ?_)
  refine c_block ?_
  refine c_seq (fun K15 hK15 => ?_)
  refine c_reg ?_
  have hlt : k < s.logs.length := by omega
  obtain ⟨l, hld⟩ : ∃ q, q = s.logs[k] := ⟨_, rfl⟩
  have hl? : s.logs[k]? = some l := by rw [hld]; simp [hlt]
  have hel : (lgE s.logs)[k]? = some l.c := by simp [lgE, hlt, hld]
  have hlo := ho.lg l (by rw [hld]; exact List.getElem_mem hlt)
  have hbe := lgB_eq hl?
  refine n_q hF hS (q_move rfl) rfl (fun a hF => ?_)
  refine n_q hF hS (q_indexAddrS Tryd.underlying24 ty100 rfl rfl (by omega) (ho.rd.some (by simp [lgE]; omega))) rfl (fun a hF => ?_)
  refine n_q hF hS (q_loadL0 (v := .agg l.c.toArray) ty100 rfl ho.rd hel (by decide) rfl rfl) rfl (fun a hF => ?_)
  refine n_l rfl (fun K16 hK16 => l_alloc hF hS zr100 rfl (fun a w b3 hF hS => hK16 _ _ ?_))
  refine n_q hF hS (q_assign rfl) rfl (fun a hF => ?_)
  refine n_l rfl (fun K17 hK17 => l_store0A ty100 hF hS rfl rfl (i := 0) rfl rfl rfl rfl (fun a w hF hS => hK17 _ _ ?_))
  refine hK15 _ _ ?_
  refine c_seq (fun K18 hK18 => ?_)
  refine r_start (fun L => L) [] mo hS (fun w hS => ?_)
  refine r_q (i := 0) rfl rfl hF hS (q_fieldAddr fl100_0 (by decide) rfl) rfl (fun a hF => ?_)
  refine r_q (i := 1) rfl rfl hF hS (q_load ty3 rfl (i := 0) rfl rfl rfl (show ldv false 1 l.c 0 = some (.int .i64 l.fo) from rfl)) rfl (fun a hF => ?_)
  refine r_one (i := 2) (by kernel_rfl) ?_
  have hsub := hS.sub
  refine r_li rfl rfl (fun K19 hK19 => l_call en44 hF rfl rfl (isFolder_c l.fo _ _ hS.fz) (fun v19 w hR a hF => ?_))
  obtain ⟨rfl, hc⟩ := hR
  replace hS := hS.call0 hc
  refine hK19 _ _ _ hS (fun _ h => h) ?_
  refine r_q (i := 3) rfl rfl hF hS (q_not rfl) rfl (fun a hF => ?_)
  refine r_q (i := 4) rfl rfl hF hS (q_move rfl) rfl (fun a hF => ?_)
  refine spn hF (s := 29) rfl (fun hc29 hF => ?_) (fun hc29 hF => ?_)
  refine r_no (b := true) (i := 5) rfl rfl hF hS rfl rfl rfl (fun a hF => ?_)
  refine r_no (b := true) (i := 6) rfl rfl hF hS rfl rfl rfl (fun a hF => ?_)
  refine r_no (b := true) (i := 7) rfl rfl hF hS rfl rfl rfl (fun a hF => ?_)
  refine r_nou (i := 8) rfl rfl hF hS rfl rfl (fun a hF => ?_)
  refine r_nou (i := 9) rfl rfl hF hS rfl rfl (fun a hF => ?_)
  refine r_nou (i := 10) rfl rfl hF hS rfl rfl (fun a hF => ?_)
  refine r_nou (i := 11) rfl rfl hF hS rfl rfl (fun a hF => ?_)
  refine r_nou (i := 12) rfl rfl hF hS rfl rfl (fun a hF => ?_)
  refine r_nou (i := 13) rfl rfl hF hS rfl rfl (fun a hF => ?_)
  refine r_nou (i := 14) rfl rfl hF hS rfl rfl (fun a hF => ?_)
  refine r_nou (i := 15) rfl rfl hF hS rfl rfl (fun a hF => ?_)
  refine r_nou (i := 16) rfl rfl hF hS rfl rfl (fun a hF => ?_)
  refine r_nou (i := 17) rfl rfl hF hS rfl rfl (fun a hF => ?_)
  refine r_no (b := true) (i := 18) rfl rfl hF hS rfl rfl rfl (fun a hF => ?_)
  refine r_q (i := 19) rfl rfl hF hS (q_pick (b := true) rfl rfl) rfl (fun a hF => ?_)
  refine r_q (i := 20) rfl rfl hF hS (q_move rfl) rfl (fun a hF => ?_)
  refine r_no (b := true) (i := 21) rfl rfl hF hS rfl rfl rfl (fun a hF => ?_)
  refine r_no (b := true) (i := 22) rfl rfl hF hS rfl rfl rfl (fun a hF => ?_)
  refine r_no (b := true) (i := 23) rfl rfl hF hS rfl rfl rfl (fun a hF => ?_)
  refine r_no (b := true) (i := 24) rfl rfl hF hS rfl rfl rfl (fun a hF => ?_)
  refine r_q (i := 25) rfl rfl hF hS (q_pick (b := true) rfl rfl) rfl (fun a hF => ?_)
  refine r_done (by kernel_rfl) ?_
  refine hK18 _ _ ?_
  refine c_true hF rfl ?_
  refine c_seq (fun K20 hK20 => ?_)
  refine c_reg ?_
  refine n_q hF hS (q_assign rfl) rfl (fun a hF => ?_)
  refine hK20 _ _ ?_
  refine c_ret ?_
  repeat (first | refine ret_then ?_ | refine ret_blk ?_)
  refine c_ret' (P := Tryd.prog) (fn := Tryd.f13) rfl hF hS (.tmp rfl .nil) ⟨_, rfl, ?_⟩
  have hbad : lgB s.logs k = false := by first | exact lgB_bad1 hl? hc29 | exact lgB_bad2 hl? (by omega) (by omega) | exact lgB_bad3 hl? (by simpa using hc50)
  refine ⟨?_, hS.same⟩
  rw [checkN_no (logsN_no hlt hbad)]; rfl
  refine r_qg (i := 5) rfl rfl hF hS rfl (q_move rfl) rfl (fun a hF => ?_)
  refine r_qg (i := 6) rfl rfl hF hS rfl (q_gtr rfl rfl) rfl (fun a hF => ?_)
  refine r_qg (i := 7) rfl rfl hF hS rfl (q_move rfl) rfl (fun a hF => ?_)
  refine spd hF (s := 32) rfl (fun hc32 hF => ?_) (fun hc32 hF => ?_)
  refine r_qg (i := 8) rfl rfl hF hS rfl (q_fieldAddr fl26_2 (by decide) rfl) rfl (fun a hF => ?_)
  refine r_qg (i := 9) rfl rfl hF hS rfl (q_loadG (o := 0 + 2) (v := .slice s.la s.logs.length s.lc) ty24 rfl hbx.h (Nat.le_of_ble_eq_true rfl) rfl rfl) rfl (fun a hF => ?_)
  refine r_qg (i := 10) rfl rfl hF hS rfl (q_move rfl) rfl (fun a hF => ?_)
  refine r_qg (i := 11) rfl rfl hF hS rfl (q_subI rfl rfl (by omega)) rfl (fun a hF => ?_)
  refine r_qg (i := 12) rfl rfl hF hS rfl (q_indexAddrS Tryd.underlying24 ty100 rfl rfl (by omega) (ho.rd.some (by simp [lgE]; omega))) rfl (fun a hF => ?_)
  refine r_qg (i := 13) rfl rfl hF hS rfl (q_fieldAddrE fl100_0 (by decide) rfl) rfl (fun a hF => ?_)
  refine r_qg (i := 14) rfl rfl hF hS rfl (q_loadL (off := 0) (i := ((k : Int) - 1).toNat) (v := .int .i64 ((s.logs[k - 1]?.map Lg.fo).getD 0)) ty3 rfl ho.rd (show (lgE s.logs)[((k : Int) - 1).toNat]? = some (s.logs[k - 1]).c by rw [show ((k : Int) - 1).toNat = k - 1 by omega]; simp [lgE, show k - 1 < s.logs.length by omega]) (by decide) rfl (by simp [ldv, Lg.c, show k - 1 < s.logs.length by omega])) rfl (fun a hF => ?_)
  refine r_qg (i := 15) rfl rfl hF hS rfl (q_fieldAddr fl100_0 (by decide) rfl) rfl (fun a hF => ?_)
  refine r_qg (i := 16) rfl rfl hF hS rfl (q_load ty3 rfl (i := 0) rfl rfl rfl (show ldv false 1 l.c 0 = some (.int .i64 l.fo) from rfl)) rfl (fun a hF => ?_)
  refine r_qg (i := 17) rfl rfl hF hS rfl (q_geq rfl rfl) rfl (fun a hF => ?_)
  refine r_qg (i := 18) rfl rfl hF hS rfl (q_pick (b := true) rfl rfl) rfl (fun a hF => ?_)
  refine r_q (i := 19) rfl rfl hF hS (q_pick (b := false) rfl rfl) rfl (fun a hF => ?_)
  refine r_q (i := 20) rfl rfl hF hS (q_move rfl) rfl (fun a hF => ?_)
  refine spd hF (s := 45) rfl (fun hc45 hF => ?_) (fun hc45 hF => ?_)
  refine r_no (b := true) (i := 21) rfl rfl hF hS rfl rfl rfl (fun a hF => ?_)
  refine r_no (b := true) (i := 22) rfl rfl hF hS rfl rfl rfl (fun a hF => ?_)
  refine r_no (b := true) (i := 23) rfl rfl hF hS rfl rfl rfl (fun a hF => ?_)
  refine r_no (b := true) (i := 24) rfl rfl hF hS rfl rfl rfl (fun a hF => ?_)
  refine r_q (i := 25) rfl rfl hF hS (q_pick (b := true) rfl rfl) rfl (fun a hF => ?_)
  refine r_done (by kernel_rfl) ?_
  refine hK18 _ _ ?_
  refine c_true hF rfl ?_
  refine c_seq (fun K21 hK21 => ?_)
  refine c_reg ?_
  refine n_q hF hS (q_assign rfl) rfl (fun a hF => ?_)
  refine hK21 _ _ ?_
  refine c_ret ?_
  repeat (first | refine ret_then ?_ | refine ret_blk ?_)
  refine c_ret' (P := Tryd.prog) (fn := Tryd.f13) rfl hF hS (.tmp rfl .nil) ⟨_, rfl, ?_⟩
  have hbad : lgB s.logs k = false := by first | exact lgB_bad1 hl? hc29 | exact lgB_bad2 hl? (by omega) (by omega) | exact lgB_bad3 hl? (by simpa using hc50)
  refine ⟨?_, hS.same⟩
  rw [checkN_no (logsN_no hlt hbad)]; rfl
  refine r_qg (i := 21) rfl rfl hF hS rfl (q_fieldAddr fl100_1 (by decide) rfl) rfl (fun a hF => ?_)
  refine r_qg (i := 22) rfl rfl hF hS rfl (q_load ty31 rfl (i := 0) rfl rfl rfl (show ldv false 1 l.c 1 = some (.slice l.ea l.es.length l.ec) from rfl)) rfl (fun a hF => ?_)
  refine r_one (i := 23) (by kernel_rfl) ?_
  have hsub := hS.sub
  refine r_lig rfl rfl hF rfl (fun K22 hK22 => l_call en45 hF rfl rfl (fine_c l.es l.ea l.ec hlo.len _ _ hS.fz hg hlo.rd hlo.en) (fun v22 w hR a hF => ?_))
  obtain ⟨rfl, hc⟩ := hR
  replace hS := hS.call0 hc
  refine hK22 _ _ _ hS (fun _ h => h) ?_
  refine r_qg (i := 24) rfl rfl hF hS rfl (q_not rfl) rfl (fun a hF => ?_)
  refine r_q (i := 25) rfl rfl hF hS (q_pick (b := false) rfl rfl) rfl (fun a hF => ?_)
  refine r_done (by kernel_rfl) ?_
  refine hK18 _ _ ?_
  refine sp hF (s := 50) rfl (fun hc50 hF => ?_) (fun hc50 hF => ?_)
  refine c_true hF rfl ?_
  refine c_seq (fun K23 hK23 => ?_)
  refine c_reg ?_
  refine n_q hF hS (q_assign rfl) rfl (fun a hF => ?_)
  refine hK23 _ _ ?_
  refine c_ret ?_
  repeat (first | refine ret_then ?_ | refine ret_blk ?_)
  refine c_ret' (P := Tryd.prog) (fn := Tryd.f13) rfl hF hS (.tmp rfl .nil) ⟨_, rfl, ?_⟩
  have hbad : lgB s.logs k = false := by first | exact lgB_bad1 hl? hc29 | exact lgB_bad2 hl? (by omega) (by omega) | exact lgB_bad3 hl? (by simpa using hc50)
  refine ⟨?_, hS.same⟩
  rw [checkN_no (logsN_no hlt hbad)]; rfl
  refine c_false hF rfl ?_
  refine wp_skip ?_
  refine hK14 _ _ ?_
  refine c_reg ?_
  refine n_q hF hS (q_addI rfl rfl (by omega)) rfl (fun a hF => ?_)
  refine n_q hF hS (q_move rfl) rfl (fun a hF => ?_)
  have hok : lgB s.logs k = true := lgB_ok hl? hc29 (by omega) (by simpa using hc50)
  exact ⟨k + 1, _, (by show s.logs.length - (k + 1) < s.logs.length - k; omega), hl0, hF.back ⟨rfl, trivial⟩ rfl (by repeat first | exact Ext.refl _ _ | refine Ext.rem' rfl ?_ | refine Ext.push rfl ?_), hS.lose (.cons _ (.refl _)), ⟨by show k + 1 ≤ s.logs.length; omega, fun j hj => by rcases Nat.lt_succ_iff_lt_or_eq.1 hj with h | rfl; exact hJ2 j h; exact hok⟩⟩
  refine r_no (b := false) (i := 8) rfl rfl hF hS rfl rfl rfl (fun a hF => ?_)
  refine r_no (b := false) (i := 9) rfl rfl hF hS rfl rfl rfl (fun a hF => ?_)
  refine r_no (b := false) (i := 10) rfl rfl hF hS rfl rfl rfl (fun a hF => ?_)
  refine r_no (b := false) (i := 11) rfl rfl hF hS rfl rfl rfl (fun a hF => ?_)
  refine r_no (b := false) (i := 12) rfl rfl hF hS rfl rfl rfl (fun a hF => ?_)
  refine r_no (b := false) (i := 13) rfl rfl hF hS rfl rfl rfl (fun a hF => ?_)
  refine r_no (b := false) (i := 14) rfl rfl hF hS rfl rfl rfl (fun a hF => ?_)
  refine r_no (b := false) (i := 15) rfl rfl hF hS rfl rfl rfl (fun a hF => ?_)
  refine r_no (b := false) (i := 16) rfl rfl hF hS rfl rfl rfl (fun a hF => ?_)
  refine r_no (b := false) (i := 17) rfl rfl hF hS rfl rfl rfl (fun a hF => ?_)
  refine r_qg (i := 18) rfl rfl hF hS rfl (q_pick (b := false) rfl rfl) rfl (fun a hF => ?_)
  refine r_q (i := 19) rfl rfl hF hS (q_pick (b := false) rfl rfl) rfl (fun a hF => ?_)
  refine r_q (i := 20) rfl rfl hF hS (q_move rfl) rfl (fun a hF => ?_)
  refine r_qg (i := 21) rfl rfl hF hS rfl (q_fieldAddr fl100_1 (by decide) rfl) rfl (fun a hF => ?_)
  refine r_qg (i := 22) rfl rfl hF hS rfl (q_load ty31 rfl (i := 0) rfl rfl rfl (show ldv false 1 l.c 1 = some (.slice l.ea l.es.length l.ec) from rfl)) rfl (fun a hF => ?_)
  refine r_one (i := 23) (by kernel_rfl) ?_
  have hsub := hS.sub
  refine r_lig rfl rfl hF rfl (fun K24 hK24 => l_call en45 hF rfl rfl (fine_c l.es l.ea l.ec hlo.len _ _ hS.fz hg hlo.rd hlo.en) (fun v24 w hR a hF => ?_))
  obtain ⟨rfl, hc⟩ := hR
  replace hS := hS.call0 hc
  refine hK24 _ _ _ hS (fun _ h => h) ?_
  refine r_qg (i := 24) rfl rfl hF hS rfl (q_not rfl) rfl (fun a hF => ?_)
  refine r_q (i := 25) rfl rfl hF hS (q_pick (b := false) rfl rfl) rfl (fun a hF => ?_)
  refine r_done (by kernel_rfl) ?_
  refine hK18 _ _ ?_
  refine sp hF (s := 50) rfl (fun hc50 hF => ?_) (fun hc50 hF => ?_)
  refine c_true hF rfl ?_
  refine c_seq (fun K25 hK25 => ?_)
  refine c_reg ?_
  refine n_q hF hS (q_assign rfl) rfl (fun a hF => ?_)
  refine hK25 _ _ ?_
  refine c_ret ?_
  repeat (first | refine ret_then ?_ | refine ret_blk ?_)
  refine c_ret' (P := Tryd.prog) (fn := Tryd.f13) rfl hF hS (.tmp rfl .nil) ⟨_, rfl, ?_⟩
  have hbad : lgB s.logs k = false := by first | exact lgB_bad1 hl? hc29 | exact lgB_bad2 hl? (by omega) (by omega) | exact lgB_bad3 hl? (by simpa using hc50)
  refine ⟨?_, hS.same⟩
  rw [checkN_no (logsN_no hlt hbad)]; rfl
  refine c_false hF rfl ?_
  refine wp_skip ?_
  refine hK14 _ _ ?_
  refine c_reg ?_
  refine n_q hF hS (q_addI rfl rfl (by omega)) rfl (fun a hF => ?_)
  refine n_q hF hS (q_move rfl) rfl (fun a hF => ?_)
  have hok : lgB s.logs k = true := lgB_ok hl? hc29 (by omega) (by simpa using hc50)
  exact ⟨k + 1, _, (by show s.logs.length - (k + 1) < s.logs.length - k; omega), hl0, hF.back ⟨rfl, trivial⟩ rfl (by repeat first | exact Ext.refl _ _ | refine Ext.rem' rfl ?_ | refine Ext.push rfl ?_), hS.lose (.cons _ (.refl _)), ⟨by show k + 1 ≤ s.logs.length; omega, fun j hj => by rcases Nat.lt_succ_iff_lt_or_eq.1 hj with h | rfl; exact hJ2 j h; exact hok⟩⟩
  refine c_false hF rfl ?_
  refine c_exit ?_
  refine hK10 _ _ ?_
  refine c_seq (fun K26 hK26 => ?_)
  refine c_reg ?_
  refine n_q hF hS (q_assign rfl) rfl (fun a hF => ?_)
  refine hK26 _ _ ?_
  refine c_ret ?_
  repeat (first | refine ret_then ?_ | refine ret_blk ?_)
  refine c_ret' (P := Tryd.prog) (fn := Tryd.f13) rfl hF hS (.tmp rfl .nil) ⟨_, rfl, ?_⟩
  refine ⟨?_, hS.same⟩
  rw [checkN_yes hc16 (logsN_yes (fun j hj => hJ2 j (by omega)))]; rfl
end Go.Proofs.YtneokajhmonpaaaDoor

namespace Go.Proofs.YtneokajhmonpaaaDoor
open Go Go.RowKit Go.W
set_option maxRecDepth 10000
open Fx

theorem open_c (s : Sto) (f : Int) (w : World) (H : Froz) (hz : Fz H w) (hg : Gl 0 1 H) (ho : StOK H s) :
    CallsR Tryd.prog 46 [.agg s.c.toArray, .int .i64 f] w fun v w' => ∃ p H', v = .tuple #[.pointer p, .int .i64 (openE s f)] ∧ Le H H' ∧ (openE s f = 0 → ∃ b, p = some ⟨b, 0, none⟩ ∧ HR H' b s.c) ∧ St ⟨w, H, []⟩ H' [] w' := by
  refine calls_start Tryd.func46 rfl Tryd.ntmps46 rfl (fun a hF => ?_)
  have hS := St.start w H hz
  refine c_seq (fun K1 hK1 => ?_)
  refine c_reg ?_
  refine n_l rfl (fun K2 hK2 => l_boxA hF hS rfl rfl (fun a w b1 hF hS => hK2 _ _ ?_))
  refine n_q hF hS (q_assign rfl) rfl (fun a hF => ?_)
  refine n_q hF hS (q_assign rfl) rfl (fun a hF => ?_)
  refine hK1 _ _ ?_
  refine c_seq (fun K3 hK3 => ?_)
  refine c_seq (fun K4 hK4 => ?_)
  refine c_reg ?_
  refine n_q hF hS (q_load0 ty26 rfl (i := 0) rfl rfl rfl) rfl (fun a hF => ?_)
  refine n_l rfl (fun K5 hK5 => l_call en13 hF rfl rfl (SCheck_c s _ _ hS.fz hg ho) (fun v5 w hR a hF => ?_))
  obtain ⟨rfl, hc⟩ := hR
  replace hS := hS.call0 hc
  refine hK5 _ _ ?_
  refine n_q hF hS (q_assign rfl) rfl (fun a hF => ?_)
  refine hK4 _ _ ?_
  refine c_seq (fun K6 hK6 => ?_)
  refine c_reg ?_
  refine n_q hF hS (q_move rfl) rfl (fun a hF => ?_)
  refine n_q hF hS (q_neI rfl rfl) rfl (fun a hF => ?_)
  refine hK6 _ _ ?_
  refine spn hF (s := 10) rfl (fun hc10 hF => ?_) (fun hc10 hF => ?_)
  refine c_true hF rfl ?_
  refine c_seq (fun K7 hK7 => ?_)
  refine c_reg ?_
  refine n_q hF hS (q_move rfl) rfl (fun a hF => ?_)
  refine n_q hF hS (q_assign rfl) rfl (fun a hF => ?_)
  refine n_q hF hS (q_assign rfl) rfl (fun a hF => ?_)
  refine hK7 _ _ ?_
  refine c_ret ?_
  repeat (first | refine ret_then ?_ | refine ret_blk ?_)
  refine c_ret' (P := Tryd.prog) (fn := Tryd.f46) rfl hF hS (.tmp rfl (.tmp rfl .nil)) ⟨_, rfl, ?_⟩
  have he : openE s f = checkN s := by rw [openE_def, if_neg hc10]
  exact ⟨none, H, by rw [he]; rfl, Le.refl H, fun h => absurd (he ▸ h) hc10, hS.same⟩
  refine c_false hF rfl ?_
  refine wp_skip ?_
  refine hK3 _ _ ?_
  refine c_seq (fun K8 hK8 => ?_)
  refine c_seq (fun K9 hK9 => ?_)
  refine c_reg ?_
  refine n_q hF hS (q_move rfl) rfl (fun a hF => ?_)
  refine n_l rfl (fun K10 hK10 => l_call en44 hF rfl rfl (isFolder_c f _ _ hS.fz) (fun v10 w hR a hF => ?_))
  obtain ⟨rfl, hc⟩ := hR
  replace hS := hS.call0 hc
  refine hK10 _ _ ?_
  refine n_q hF hS (q_not rfl) rfl (fun a hF => ?_)
  refine hK9 _ _ ?_
  refine spn hF (s := 14) rfl (fun hc14 hF => ?_) (fun hc14 hF => ?_)
  refine c_true hF rfl ?_
  refine c_seq (fun K11 hK11 => ?_)
  refine c_reg ?_
  refine n_q hF hS (q_assign rfl) rfl (fun a hF => ?_)
  refine n_q hF hS (q_assign rfl) rfl (fun a hF => ?_)
  refine hK11 _ _ ?_
  refine c_ret ?_
  repeat (first | refine ret_then ?_ | refine ret_blk ?_)
  refine c_ret' (P := Tryd.prog) (fn := Tryd.f46) rfl hF hS (.tmp rfl (.tmp rfl .nil)) ⟨_, rfl, ?_⟩
  have he : openE s f = 1 := by rw [openE_def, if_pos hc10, if_neg hc14]
  exact ⟨none, H, by rw [he]; rfl, Le.refl H, (fun h => by rw [he] at h; cases h), hS.same⟩
  refine c_false hF rfl ?_
  refine wp_skip ?_
  refine hK8 _ _ ?_
  refine c_seq (fun K12 hK12 => ?_)
  refine c_reg ?_
  refine n_q hF hS (q_load0 ty26 rfl (i := 0) rfl rfl rfl) rfl (fun a hF => ?_)
  refine n_q hF hS (q_build (P := Tryd.prog) (T := 145) (cs := [_, _, _]) zr145 pl145 rfl (by first | rfl | simp [bld, spl, dc_length, Hd.c_len, En.c_len, List.length_replicate, List.length_cons, List.length_nil, List.length_append])) rfl (fun a hF => ?_)
  refine n_l rfl (fun K13 hK13 => l_boxA hF hS rfl rfl (fun a w b2 hF hS => hK13 _ _ ?_))
  refine n_q hF hS (q_assign rfl) rfl (fun a hF => ?_)
  refine n_q hF hS (q_assign rfl) rfl (fun a hF => ?_)
  refine hK12 _ _ ?_
  refine c_ret ?_
  repeat (first | refine ret_then ?_ | refine ret_blk ?_)
  refine c_ret' (P := Tryd.prog) (fn := Tryd.f46) rfl hF hS (.tmp rfl (.tmp rfl .nil)) ⟨_, rfl, ?_⟩
  have he : openE s f = 0 := by rw [openE_def, if_pos hc10, if_pos hc14]
  obtain ⟨H5, hH5, hle5, hS5⟩ := hS.freeze' (i := 0) rfl
  exact ⟨_, H5, by rw [he]; rfl, hS5.le, fun _ => ⟨_, rfl, by rw [hH5]; exact frz_hr⟩, hS5.nil⟩

end Go.Proofs.YtneokajhmonpaaaDoor

namespace Go.Proofs.YtneokajhmonpaaaDoor
open Go Go.RowKit Go.W
set_option maxRecDepth 10000
open Fx

theorem digests1s_c (es : List En) (al : Option Addr) (cl : Nat) (hn : es.length ≤ 1000000) (b : Nat) {Γ : Type} (l : Nat) (r0 : Loop) (Lc : Γ → List Blk) (C : Nat → Γ → Froz → Prop) (X : Nat → Code → Γ → Froz → Prop) (γ0 : Γ) (w : World) (H : Froz) (hx : HR H b [.slice al es.length cl]) (hr : RdL H al 35 (enE es)) (hH0 : Hand w H (Lc γ0)) (hlz : H l = none) (hw0 : w.heap[l]? = some (.loop r0)) (hC0 : C 0 γ0 H) (hRd : RoundsOK Tryd.prog l r0 es.length (dgY (es.map En.dg)) Lc C X H) :
    CallsR Tryd.prog 86 [yv l, .pointer (some ⟨b, 0, none⟩)] w fun _ w' => IterR l r0 es.length Lc C X H ((Lc γ0).map (·.b)) w w' := by
  refine calls_start Tryd.func86 rfl Tryd.ntmps86 rfl (fun a hF => ?_)
  have hS := St.startG hH0
  refine c_seq (fun K1 hK1 => ?_)
  refine c_reg ?_
  refine n_q hF hS (q_loadG (o := 0) (v := .slice al es.length cl) ty31 rfl hx.h (Nat.le_of_ble_eq_true rfl) rfl rfl) rfl (fun a hF => ?_)
  refine n_q hF hS (q_len Tryd.underlying31 rfl rfl) rfl (fun a hF => ?_)
  refine n_q hF hS (q_move rfl) rfl (fun a hF => ?_)
  refine hK1 _ _ ?_
  refine c_block ?_
  refine c_loopL hF [4, 7, 8, 9, 10, 11, 12, 13, 14, 15, 16]
    (fun g : Nat × Γ => [(7, .int .i64 (g.1 : Int))])
    (fun g => Lc g.2)
    (fun g H => g.1 ≤ es.length ∧ C g.1 g.2 H)
    (fun g => es.length - g.1) ((0, γ0)) ⟨rfl, trivial⟩ (hS) (⟨Nat.zero_le _, hC0⟩) ?_
  clear hF hS
  intro g a w H hle hF hS hJ
  replace hr := hr.mono hle
  have hl0 := Le.refl H
  obtain ⟨j, γ⟩ := g
  obtain ⟨hj, hC⟩ := hJ
  try dsimp only at hF hS hj hC
  refine c_seq (fun K2 hK2 => ?_)
  refine c_reg ?_
  refine n_q hF hS (q_lss rfl rfl) rfl (fun a hF => ?_)
  refine hK2 _ _ ?_
  refine c_seq (fun K3 hK3 => ?_)
  refine spd hF (s := 8) rfl (fun hc8 hF => ?_) (fun hc8 hF => ?_)
  refine c_true hF rfl ?_
  refine wp_skip ?_
  refine hK3 _ _ ?_
  refine c_seq (fun K4 hK4 => ?_)
  refine c_block ?_
  refine c_seq (fun K5 hK5 => ?_)
  refine c_reg ?_
  have hlt : j < es.length := by omega
  obtain ⟨e, hed⟩ : ∃ q, q = es[j] := ⟨_, rfl⟩
  have hel : (enE es)[j]? = some e.c := by simp [enE, hlt, hed]
  have hdg : dgY (es.map En.dg) j = [.agg (dc e.dg).toArray] := dgY_at (by simp [hlt, hed])
  refine n_q hF hS (q_indexAddrS Tryd.underlying31 ty48 rfl rfl (by omega) (hr.some (by simp [enE]; omega))) rfl (fun a hF => ?_)
  refine n_q hF hS (q_loadL0 (v := .agg e.c.toArray) ty48 rfl hr hel (by decide) rfl (En.ld_all e)) rfl (fun a hF => ?_)
  refine n_l rfl (fun K6 hK6 => l_alloc hF hS zr48 rfl (fun a w b1 hF hS => hK6 _ _ ?_))
  refine n_l rfl (fun K7 hK7 => l_store0A ty48 hF hS rfl rfl (i := 0) rfl (by simp [dc_length, Hd.c_len, En.c_len, List.length_replicate, List.length_cons, List.length_nil, List.length_append]) (by simp [dc_length, Hd.c_len, En.c_len, List.length_replicate, List.length_cons, List.length_nil, List.length_append]) (En.c_all1 _) (fun a w hF hS => hK7 _ _ ?_))
  refine hK5 _ _ ?_
  refine c_seq (fun K8 hK8 => ?_)
  refine y_reg ?_
  refine y_q hF hS (q_move rfl) rfl rfl (fun a hF => ?_)
  refine y_q hF hS (q_fieldAddr fl48_1 (by decide) rfl) rfl rfl (fun a hF => ?_)
  refine y_q hF hS (q_load ty35 rfl (i := 0) rfl (by simp [dc_length, Hd.c_len, En.c_len, List.length_replicate, List.length_cons, List.length_nil, List.length_append]) rfl (En.ld_dg e)) rfl rfl (fun a hF => ?_)
  have hlw := hS.loop_at hw0 (hH0.loop_not hw0)
  have hln := hS.loop_no hw0 hlz (hH0.loop_not hw0)
  replace hS : St _ _ (Lc γ ++ [⟨b1, e.c, 48⟩]) _ := St.perm (L := [⟨b1, e.c, 48⟩] ++ Lc γ) hS List.perm_append_comm
  refine y_y rfl (fun K9 hK9 => y_call hF rfl rfl rfl (by have h9 := hRd j hlt _ _ _ hC hle hS.hand hln hlw; rw [hdg] at h9; exact h9) (fun v w hR a hF => ?_) (fun e w h => by rcases h with ⟨rfl, _⟩ | ⟨rfl, _⟩ <;> exact ⟨_, rfl⟩))
  rcases hR with ⟨hv, γ', H', hC', hc, hl'⟩ | ⟨hv, γ', H', c', hX', hn', hc, hl'⟩
  obtain rfl := Ending.returned.inj hv
  have hle' := hc.le
  replace hS := hS.callG hc
  replace hr := hr.mono hle'
  replace hl0 := hl0.mono hle'
  refine hK9 _ _ ?_
  refine y_q hF hS (q_not rfl) rfl rfl (fun a hF => ?_)
  refine hK8 _ _ ?_
  refine c_false hF rfl ?_
  refine wp_skip ?_
  refine hK4 _ _ ?_
  refine c_reg ?_
  refine n_q hF hS (q_addI rfl rfl (by omega)) rfl (fun a hF => ?_)
  refine n_q hF hS (q_move rfl) rfl (fun a hF => ?_)
  exact ⟨(j + 1, γ'), _, (by show es.length - (j + 1) < es.length - j; omega), hl0, hF.back ⟨rfl, trivial⟩ rfl (by repeat first | exact Ext.refl _ _ | refine Ext.rem' rfl ?_ | refine Ext.push rfl ?_), (hS.lose (List.sublist_append_left _ _)), ⟨by show j + 1 ≤ _; omega, hC'⟩⟩
  obtain rfl := Ending.returned.inj hv
  have hSl := hS.leave hc
  replace hS := St.start _ _ hc.froz
  refine hK9 _ _ ?_
  refine y_q hF hS (q_not rfl) rfl rfl (fun a hF => ?_)
  refine hK8 _ _ ?_
  refine c_true hF rfl ?_
  refine c_ret ?_
  repeat (first | refine ret_then ?_ | refine ret_blk ?_)
  refine c_ret' (P := Tryd.prog) (fn := Tryd.f86) rfl hF hS .nil ⟨_, rfl, ?_⟩
  exact .inr ⟨j, γ', H', c', hlt, hX', hn', hSl, hl'⟩
  refine c_false hF rfl ?_
  refine c_exit ?_
  repeat (first | refine ex_then ?_ | refine ex_blk ?_)
  refine c_norm (P := Tryd.prog) (fn := Tryd.f86) rfl hF hS .nil ⟨_, rfl, ?_⟩
  obtain rfl : j = es.length := by omega
  exact .inl ⟨γ, _, hC, hS, hS.loop_at hw0 (hH0.loop_not hw0)⟩

theorem digestsS_c (al : Option Addr) (n cl : Nat) (w : World) (H : Froz) (hz : Fz H w) :
    CallsR Tryd.prog 50 [.slice al n cl] w fun v w' => ∃ bq H', v = .func (.func 86) #[] #[.pointer (some ⟨bq, 0, none⟩)] ∧ Le H H' ∧ HR H' bq [.slice al n cl] ∧ St ⟨w, H, []⟩ H' [] w' := by
  refine calls_start Tryd.func50 rfl Tryd.ntmps50 rfl (fun a hF => ?_)
  have hS := St.start w H hz
  refine c_seq (fun K1 hK1 => ?_)
  refine c_reg ?_
  refine n_l rfl (fun K2 hK2 => l_box (cs := [_]) hF hS rfl rfl rfl (fun a w b1 hF hS => hK2 _ _ ?_))
  refine n_q hF hS (q_assign rfl) rfl (fun a hF => ?_)
  refine hK1 _ _ ?_
  refine c_seq (fun K3 hK3 => ?_)
  refine c_reg ?_
  refine n_q hF hS (q_makeFunc rfl rfl) rfl (fun a hF => ?_)
  refine n_q hF hS (q_assign rfl) rfl (fun a hF => ?_)
  refine hK3 _ _ ?_
  refine c_ret ?_
  repeat (first | refine ret_then ?_ | refine ret_blk ?_)
  refine c_ret' (P := Tryd.prog) (fn := Tryd.f50) rfl hF hS (.tmp rfl .nil) ⟨_, rfl, ?_⟩
  obtain ⟨H1, hH1, hle1, hS1⟩ := hS.freeze' (i := 0) rfl
  exact ⟨b1, H1, rfl, hle1, by rw [hH1]; exact frz_hr, hS1⟩

theorem AppendSeq_c (es : List En) (al : Option Addr) (cl : Nat) (hn : es.length ≤ 1000000) (bq : Nat) (w : World) (H : Froz) (hz : Fz H w) (hx : HR H bq [.slice al es.length cl]) (hr : RdL H al 35 (enE es)) :
    CallsR Tryd.prog 85 [.slice none 0 0, .func (.func 86) #[] #[.pointer (some ⟨bq, 0, none⟩)]] w fun v w' => ∃ ad cp Lx, v = .slice ad es.length cp ∧ OwS 35 32 (.slice ad es.length cp) es.length (dgE (es.map En.dg)).flatten Lx ∧ St ⟨w, H, []⟩ H Lx w' := by
  refine callsM_start Tryd.func85 rfl Tryd.ntmps85 rfl (fun a hF => ?_)
  have hS := St.start w H hz
  refine c_seq (fun K1 hK1 => ?_)
  refine c_reg ?_
  refine n_l rfl (fun K2 hK2 => l_box (cs := [_]) hF hS rfl rfl rfl (fun a w b1 hF hS => hK2 _ _ ?_))
  refine n_q hF hS (q_assign rfl) rfl (fun a hF => ?_)
  refine hK1 _ _ ?_
  refine c_seq (fun K3 hK3 => ?_)
  refine c_seq (fun K4 hK4 => ?_)
  refine c_reg ?_
  refine n_q hF hS (q_move rfl) rfl (fun a hF => ?_)
  refine hK4 _ _ ?_
  refine c_block ?_
  have hF0 := hF
  refine c_rangeF (Γ := Nat × Option Addr × Nat × List Blk) (Lr := []) (N := es.length) (Lc := fun g => [⟨b1, [.slice g.2.1 g.1 g.2.2.1], 45⟩] ++ g.2.2.2) (C := fun j g _ => g.1 = j ∧ OwS 35 32 (.slice g.2.1 g.1 g.2.2.1) g.1 (dgE ((es.map En.dg).take g.1)).flatten g.2.2.2) (X := fun _ _ _ _ => False) (γ0 := (0, none, 0, [])) (dgY (es.map En.dg)) en86 hF hS rfl (⟨rfl, .nil⟩) ?_ ?_ ?_ ?_
  intro l r0 w hrs hH hlz hw hR
  exact digests1s_c es al cl hn bq l r0 _ _ _ _ w _ hx hr hH hlz hw ⟨rfl, .nil⟩ hR
  intro l r0 hrs hrp hps has hbo htm j hj γ H w hC hle hH hlz hw
  refine y_round hF0 hrs hps has hbo htm (dgY_len (by simpa using hj)).symm rfl hH hlz hw (fun a K hF hS hK => ?_)
  replace hx := hx.mono hle
  replace hr := hr.mono hle
  obtain ⟨n, ad, cp, Lx⟩ := γ
  obtain ⟨hnj, hO⟩ := hC
  try dsimp only at hF hS hnj hO
  subst hnj
  obtain ⟨d, hdd⟩ : ∃ d, (es.map En.dg)[n]? = some d := ⟨(es.map En.dg)[n]'(by simpa using hj), List.getElem?_eq_getElem _⟩
  rw [dgY_at hdd] at hF
  refine k_reg (by repeat first | exact nl_round | exact nl_false | refine nl_then ?_ | refine nl_block ?_) rfl ?_
  refine n_l rfl (fun K5 hK5 => l_alloc hF hS zr35 rfl (fun a w b2 hF hS => hK5 _ _ ?_))
  refine n_l rfl (fun K6 hK6 => l_store0A ty35 hF hS rfl rfl (i := 0) rfl (by simp [dc_length, Hd.c_len, En.c_len, List.length_replicate, List.length_cons, List.length_nil, List.length_append]) (by simp [dc_length, Hd.c_len, En.c_len, List.length_replicate, List.length_cons, List.length_nil, List.length_append]) (by first | exact dc_all1 _ | rfl | simp [all1]) (fun a w hF hS => hK6 _ _ ?_))
  refine hK _ _ _ _ _ hF hS (fun w hS => ?_)
  refine k_block ?_
  refine k_reg (by repeat first | exact nl_round | exact nl_false | refine nl_then ?_ | refine nl_block ?_) rfl ?_
  refine n_q hF hS (q_load ty45 rfl (i := 1) rfl rfl rfl rfl) rfl (fun a hF => ?_)
  refine n_q hF hS (q_load0 ty35 rfl (i := 0) rfl (by simp [dc_length, Hd.c_len, En.c_len, List.length_replicate, List.length_cons, List.length_nil, List.length_append]) rfl) rfl (fun a hF => ?_)
  refine n_l rfl (fun K7 hK7 => l_buildF (els := [dc d]) Tryd.underlying45 ty35 zr35 hF hS rfl rfl rfl (fun e he => by rw [List.mem_singleton.1 he]; exact dc_length _) rfl rfl rfl (fun a w b3 hF hle hS r3_2 => ?_))
  replace hx := hx.mono hle
  replace hr := hr.mono hle
  refine hK7 _ _ ?_
  replace hS := St.perm (L := [_, _] ++ Lx) (L' := Lx ++ [_, _]) hS List.perm_append_comm
  refine n_l rfl (fun K8 hK8 => l_append Tryd.underlying45 ty35 zr35 bt35 hF hS rfl rfl (hO) (.slice Tryd.underlying45 r3_2.rd (by simp only [List.flatten_cons, List.flatten_nil, List.append_nil]; exact dc_all1 _)) (by omega) (by simp only [maxLen]; omega) rfl rfl (fun a w c3_3 ad3_3 Lx3_3 ho3_3 hF hS => hK8 _ _ ?_))
  replace hS := hS.perm (L' := [_, _] ++ Lx3_3) List.perm_append_comm
  refine n_l rfl (fun K9 hK9 => l_store (vs := [_]) ty45 hF hS rfl rfl (i := 1) rfl rfl rfl rfl rfl (fun a w hF hS => hK9 _ _ ?_))
  repeat (first | refine ex_then ?_ | refine ex_blk ?_)
  exact round_norm (a := a) (γ' := (n + 1, ad3_3, c3_3, Lx3_3)) hrs hrp hw hlz (hH.loop_not hw) (hS.lose (.cons _ (List.Sublist.refl _))) ⟨rfl, by rw [dgE_snoc hdd]; exact ho3_3⟩
  intro γ H w D hC hle hS hD
  replace hx := hx.mono hle
  replace hr := hr.mono hle
  obtain ⟨n, ad, cp, Lx⟩ := γ
  obtain ⟨hnj, hO⟩ := hC
  try dsimp only at hS hnj hO
  subst hnj
  rw [List.append_nil] at hS
  refine hK3 _ _ ?_
  refine c_seq (fun K10 hK10 => ?_)
  refine c_reg ?_
  refine m_q hF hS (q_load ty45 rfl (i := 0) rfl rfl rfl rfl) rfl (fun a hF => ?_)
  refine m_q hF hS (q_assign rfl) rfl (fun a hF => ?_)
  refine hK10 _ _ ?_
  refine c_ret ?_
  repeat (first | refine ret_then ?_ | refine ret_blk ?_ | refine ex_then ?_ | refine ex_blk ?_)
  refine m_ret (P := Tryd.prog) (fn := Tryd.f85) rfl hF hS hD (.tmp rfl .nil) (fun w hS => ⟨_, rfl, ?_⟩)
  rw [List.take_of_length_le (by simp)] at hO
  exact ⟨ad, cp, Lx, rfl, hO, (hS.lose (.cons _ (List.Sublist.refl _))).forget (Le.refl _) hS.le⟩
  exact fun _ _ _ _ _ _ _ h => h.elim

theorem Collect_c (es : List En) (al : Option Addr) (cl : Nat) (hn : es.length ≤ 1000000) (bq : Nat) (w : World) (H : Froz) (hz : Fz H w) (hx : HR H bq [.slice al es.length cl]) (hr : RdL H al 35 (enE es)) :
    CallsR Tryd.prog 49 [.func (.func 86) #[] #[.pointer (some ⟨bq, 0, none⟩)]] w fun v w' => ∃ ad cp Lx, v = .slice ad es.length cp ∧ OwS 35 32 (.slice ad es.length cp) es.length (dgE (es.map En.dg)).flatten Lx ∧ St ⟨w, H, []⟩ H Lx w' := by
  refine calls_start Tryd.func49 rfl Tryd.ntmps49 rfl (fun a hF => ?_)
  have hS := St.start w H hz
  refine c_seq (fun K1 hK1 => ?_)
  refine c_reg ?_
  refine n_q hF hS (q_assign rfl) rfl (fun a hF => ?_)
  refine hK1 _ _ ?_
  refine c_seq (fun K2 hK2 => ?_)
  refine c_reg ?_
  refine n_q hF hS (q_move rfl) rfl (fun a hF => ?_)
  refine n_l rfl (fun K3 hK3 => l_call en85 hF rfl rfl (AppendSeq_c es al cl hn bq _ _ hS.fz hx hr) (fun v3 w hR a hF => ?_))
  obtain ⟨ad, cp, Lx, rfl, hO, hc⟩ := hR
  replace hS := hS.call hc
  refine hK3 _ _ ?_
  refine n_q hF hS (q_assign rfl) rfl (fun a hF => ?_)
  refine hK2 _ _ ?_
  refine c_ret ?_
  repeat (first | refine ret_then ?_ | refine ret_blk ?_)
  refine c_ret' (P := Tryd.prog) (fn := Tryd.f49) rfl hF hS (.tmp rfl .nil) ⟨_, rfl, ?_⟩
  rw [List.append_nil] at hS
  exact ⟨ad, cp, Lx, rfl, hO, hS⟩
end Go.Proofs.YtneokajhmonpaaaDoor

namespace Go.Proofs.YtneokajhmonpaaaDoor
open Go Go.RowKit Go.W
set_option maxRecDepth 10000
open Fx

set_option maxHeartbeats 800000 in
theorem StSign_c (s : Sto) (f : Int) (es : List En) (al : Option Addr) (cl : Nat) (hn : es.length ≤ 1000000) (w : World) (H : Froz) (hz : Fz H w) (hg : Gl 0 1 H) (ho : StOK H s) (hr : RdL H al 35 (enE es)) :
    CallsR Tryd.prog 15 [.agg s.c.toArray, .int .i64 f, .slice al es.length cl] w fun v w' => v = .tuple #[.agg (signH s f (es.map En.dg)).c.toArray, .int .i64 (signE s f es.length)] ∧ St ⟨w, H, []⟩ H [] w' := by
  refine calls_start Tryd.func15 rfl Tryd.ntmps15 rfl (fun a hF => ?_)
  have hS := St.start w H hz
  refine c_seq (fun K1 hK1 => ?_)
  refine c_reg ?_
  refine n_l rfl (fun K2 hK2 => l_boxA hF hS rfl rfl (fun a w b1 hF hS => hK2 _ _ ?_))
  refine n_l rfl (fun K3 hK3 => l_alloc hF hS zr39 rfl (fun a w b2 hF hS => hK3 _ _ ?_))
  refine n_q hF hS (q_assign rfl) rfl (fun a hF => ?_)
  refine hK1 _ _ ?_
  refine c_seq (fun K4 hK4 => ?_)
  refine c_seq (fun K5 hK5 => ?_)
  refine c_reg ?_
  refine n_q hF hS (q_load0 ty26 rfl (i := 1) rfl rfl rfl) rfl (fun a hF => ?_)
  refine n_q hF hS (q_move rfl) rfl (fun a hF => ?_)
  refine n_l rfl (fun K6 hK6 => l_call en46 hF rfl rfl (open_c s f _ _ hS.fz hg ho) (fun v6 w hR a hF => ?_))
  obtain ⟨pp, Ho, rfl, hleo, hopen, hc⟩ := hR
  replace hS := hS.call hc
  replace hg := hg.mono hleo
  replace ho := ho.mono hleo
  replace hr := hr.mono hleo
  refine hK6 _ _ ?_
  refine n_q hF hS (q_move rfl) rfl (fun a hF => ?_)
  refine n_q hF hS (q_extract (i := 0) rfl rfl) rfl (fun a hF => ?_)
  refine n_q hF hS (q_extract (i := 1) rfl rfl) rfl (fun a hF => ?_)
  refine n_q hF hS (q_assign rfl) rfl (fun a hF => ?_)
  refine n_q hF hS (q_assign rfl) rfl (fun a hF => ?_)
  refine hK5 _ _ ?_
  refine c_seq (fun K7 hK7 => ?_)
  refine c_reg ?_
  refine n_q hF hS (q_move rfl) rfl (fun a hF => ?_)
  refine n_q hF hS (q_neI rfl rfl) rfl (fun a hF => ?_)
  refine hK7 _ _ ?_
  refine spn hF (s := 17) rfl (fun hc17 hF => ?_) (fun hc17 hF => ?_)
  refine c_true hF rfl ?_
  refine c_seq (fun K8 hK8 => ?_)
  refine c_reg ?_
  refine n_q hF hS (q_load0 ty39 rfl (i := 0) rfl (by simp [dc_length, Hd.c_len, En.c_len, List.length_replicate, List.length_cons, List.length_nil, List.length_append]) rfl) rfl (fun a hF => ?_)
  refine n_q hF hS (q_move rfl) rfl (fun a hF => ?_)
  refine n_l rfl (fun K9 hK9 => l_store0A ty39 hF hS rfl rfl (i := 0) rfl (by simp [dc_length, Hd.c_len, En.c_len, List.length_replicate, List.length_cons, List.length_nil, List.length_append]) (by simp [dc_length, Hd.c_len, En.c_len, List.length_replicate, List.length_cons, List.length_nil, List.length_append]) (by first | exact dc_all1 _ | rfl | simp [all1]) (fun a w hF hS => hK9 _ _ ?_))
  refine n_q hF hS (q_assign rfl) rfl (fun a hF => ?_)
  refine hK8 _ _ ?_
  refine c_ret ?_
  repeat (first | refine ret_then ?_ | refine ret_blk ?_)
  refine c_ret' (P := Tryd.prog) (fn := Tryd.f15) rfl hF hS (.cell0 rfl ty39 (i := 0) rfl (by simp [dc_length, Hd.c_len, En.c_len, List.length_replicate, List.length_cons, List.length_nil, List.length_append]) rfl (.tmp rfl .nil)) ⟨_, rfl, ?_⟩
  have he : signE s f es.length = openE s f := by rw [signE_def, if_neg hc17]
  refine ⟨?_, hS.same⟩
  rw [signH_def, if_neg (by rw [List.length_map, he]; exact hc17), he]; rfl
  refine c_false hF rfl ?_
  refine wp_skip ?_
  refine hK4 _ _ ?_
  refine c_seq (fun K10 hK10 => ?_)
  refine c_seq (fun K11 hK11 => ?_)
  refine c_reg ?_
  refine n_q hF hS (q_move rfl) rfl (fun a hF => ?_)
  refine n_q hF hS (q_len Tryd.underlying31 rfl rfl) rfl (fun a hF => ?_)
  refine n_q hF hS (q_gtr rfl rfl) rfl (fun a hF => ?_)
  refine hK11 _ _ ?_
  refine spd hF (s := 22) rfl (fun hc22 hF => ?_) (fun hc22 hF => ?_)
  refine c_true hF rfl ?_
  refine c_seq (fun K12 hK12 => ?_)
  refine c_reg ?_
  refine n_q hF hS (q_load0 ty39 rfl (i := 0) rfl (by simp [dc_length, Hd.c_len, En.c_len, List.length_replicate, List.length_cons, List.length_nil, List.length_append]) rfl) rfl (fun a hF => ?_)
  refine n_l rfl (fun K13 hK13 => l_store0A ty39 hF hS rfl rfl (i := 0) rfl (by simp [dc_length, Hd.c_len, En.c_len, List.length_replicate, List.length_cons, List.length_nil, List.length_append]) (by simp [dc_length, Hd.c_len, En.c_len, List.length_replicate, List.length_cons, List.length_nil, List.length_append]) (by first | exact dc_all1 _ | rfl | simp [all1]) (fun a w hF hS => hK13 _ _ ?_))
  refine n_q hF hS (q_assign rfl) rfl (fun a hF => ?_)
  refine hK12 _ _ ?_
  refine c_ret ?_
  repeat (first | refine ret_then ?_ | refine ret_blk ?_)
  refine c_ret' (P := Tryd.prog) (fn := Tryd.f15) rfl hF hS (.cell0 rfl ty39 (i := 0) rfl (by simp [dc_length, Hd.c_len, En.c_len, List.length_replicate, List.length_cons, List.length_nil, List.length_append]) rfl (.tmp rfl .nil)) ⟨_, rfl, ?_⟩
  have he : signE s f es.length = 1 := by rw [signE_def, if_pos hc17, if_pos (by omega)]
  refine ⟨?_, hS.same⟩
  rw [signH_def, if_neg (by rw [List.length_map, he]; decide), he]; rfl
  refine c_false hF rfl ?_
  refine wp_skip ?_
  refine hK10 _ _ ?_
  refine c_seq (fun K14 hK14 => ?_)
  refine rw_ hF (s := 2) (u := .slice al es.length cl) rfl rfl (fun hF => ?_)
  refine r_start (fun L => L) [11] mo hS (fun w hS => ?_)
  refine r_q (i := 0) rfl rfl hF hS (q_fieldAddr fl26_0 (by decide) rfl) rfl (fun a hF => ?_)
  refine r_q (i := 1) rfl rfl hF hS (q_load ty3 rfl (i := 1) rfl rfl rfl (show ldv false 1 s.c 0 = some (.int .i64 s.id) from rfl)) rfl (fun a hF => ?_)
  refine r_q (i := 2) rfl rfl hF hS (q_move rfl) rfl (fun a hF => ?_)
  refine r_q (i := 3) rfl rfl hF hS (q_move rfl) rfl (fun a hF => ?_)
  refine r_q (i := 4) rfl rfl hF hS (q_len Tryd.underlying31 rfl rfl) rfl (fun a hF => ?_)
  refine r_q (i := 5) rfl rfl hF hS (q_move rfl) rfl (fun a hF => ?_)
  refine r_q (i := 6) rfl rfl hF hS (q_move rfl) rfl (fun a hF => ?_)
  refine r_one (i := 7) (by kernel_rfl) ?_
  have hsub := hS.sub
  refine r_li rfl rfl (fun K15 hK15 => l_call en50 hF rfl rfl (digestsS_c al es.length cl _ _ hS.fz) (fun v15 w hR a hF => ?_))
  obtain ⟨bq, H4, rfl, hle4, hbq, hc⟩ := hR
  replace hS := hS.call hc
  replace hg := hg.mono hle4
  replace hr := hr.mono hle4
  refine hK15 _ _ _ hS (fun _ h => h.forget hsub hle4) ?_
  refine r_one (i := 8) (by kernel_rfl) ?_
  have hsub := hS.sub
  refine r_li rfl rfl (fun K16 hK16 => l_call en49 hF rfl rfl (Collect_c es al cl hn bq _ _ hS.fz hbq hr) (fun v16 w hR a hF => ?_))
  obtain ⟨ad, cp, Lx, rfl, hO, hc⟩ := hR
  obtain ⟨H5, hle5, hS5, hr5⟩ := hO.freeze (hS.call hc)
  replace hS := hS5
  replace hg := hg.mono hle5
  have hdr : RdL H5 ad 32 (dgE (es.map En.dg)) := RdL.of_dg (by rw [List.length_map]; exact hr5)
  refine rw_ hF (s := 32) (u := .slice ad (es.map En.dg).length cp) rfl (by rw [List.length_map]) (fun hF => ?_)
  refine hK16 _ _ _ hS (fun _ h => h.forget hsub hle5) ?_
  refine r_one (i := 9) (by kernel_rfl) ?_
  have hsub := hS.sub
  refine r_li rfl rfl (fun K17 hK17 => l_call en18 hF rfl rfl (SChain_c f (es.map En.dg) ad cp (by rw [List.length_map]; exact hn) _ _ hS.fz hg hdr) (fun v17 w hR a hF => ?_))
  obtain ⟨rfl, hc⟩ := hR
  replace hS := hS.call0 hc
  refine rw_ hF (s := 28) (u := .int .i64 ((es.map En.dg).length : Int)) rfl (by rw [List.length_map]) (fun hF => ?_)
  refine hK17 _ _ _ hS (fun _ h => h) ?_
  refine r_q (i := 10) rfl rfl hF hS (q_build (P := Tryd.prog) (T := 39) (cs := Hd.c ⟨s.id, f, ((es.map En.dg).length : Int), chainN f (es.map En.dg), 0, 0⟩) zr39 pl39 rfl (bld_hd _ _ _ _)) rfl (fun a hF => ?_)
  refine r_one (i := 11) (by kernel_rfl) ?_
  refine r_lL rfl rfl rfl (fun K18 hK18 => l_store0A ty39 hF hS rfl rfl (i := 0) rfl (by simp [dc_length, Hd.c_len, En.c_len, List.length_replicate, List.length_cons, List.length_nil, List.length_append]) (by simp [dc_length, Hd.c_len, En.c_len, List.length_replicate, List.length_cons, List.length_nil, List.length_append]) (Hd.c_all1 _) (fun a w hF hS => hK18 _ _ ?_))
  refine r_done (by kernel_rfl) ?_
  refine hK14 _ _ ?_
  refine c_seq (fun K19 hK19 => ?_)
  refine r_start (fun L => L) [6, 7, 8, 9] mo hS (fun w hS => ?_)
  refine r_q (i := 0) rfl rfl hF hS (q_fieldAddr fl26_1 (by decide) rfl) rfl (fun a hF => ?_)
  refine r_q (i := 1) rfl rfl hF hS (q_load ty3 rfl (i := 1) rfl rfl rfl (show ldv false 1 s.c 1 = some (.int .i64 s.priv) from rfl)) rfl (fun a hF => ?_)
  refine r_q (i := 2) rfl rfl hF hS (q_load0 ty39 rfl (i := 0) rfl (by simp [dc_length, Hd.c_len, En.c_len, List.length_replicate, List.length_cons, List.length_nil, List.length_append]) rfl) rfl (fun a hF => ?_)
  refine r_one (i := 3) (by kernel_rfl) ?_
  have hsub := hS.sub
  refine r_li rfl rfl (fun K20 hK20 => l_call en52 hF rfl rfl (message_c ⟨s.id, f, ((es.map En.dg).length : Int), chainN f (es.map En.dg), 0, 0⟩ _ _ hS.fz hg) (fun v20 w hR a hF => ?_))
  obtain ⟨ad6, H6, rfl, hle6, hr6, hc⟩ := hR
  replace hS := hS.call hc
  replace hg := hg.mono hle6
  refine hK20 _ _ _ hS (fun _ h => h.forget hsub hle6) ?_
  refine r_one (i := 4) (by kernel_rfl) ?_
  have hsub := hS.sub
  refine r_li rfl rfl (fun K21 hK21 => l_call en51 hF rfl rfl (Sign_c s.priv (msgN ⟨s.id, f, ((es.map En.dg).length : Int), chainN f (es.map En.dg), 0, 0⟩).l ad6 32 32 (by decide) (by decide) _ _ hS.fz hg hr6) (fun v21 w hR a hF => ?_))
  obtain ⟨rfl, hc⟩ := hR
  replace hS := hS.call0 hc
  refine hK21 _ _ _ hS (fun _ h => h) ?_
  refine r_q (i := 5) rfl rfl hF hS (q_move rfl) rfl (fun a hF => ?_)
  refine r_qL (i := 6) rfl rfl hF (q_extract (i := 0) rfl rfl) rfl (fun a hF => ?_)
  refine r_qL (i := 7) rfl rfl hF (q_extract (i := 1) rfl rfl) rfl (fun a hF => ?_)
  refine r_qL (i := 8) rfl rfl hF (q_fieldAddr fl39_4 (by decide) rfl) rfl (fun a hF => ?_)
  refine r_one (i := 9) (by kernel_rfl) ?_
  refine r_lL rfl rfl rfl (fun K22 hK22 => l_storeA ty37 hF hS rfl rfl (i := 0) rfl rfl (by simp [dc_length, Hd.c_len, En.c_len, List.length_replicate, List.length_cons, List.length_nil, List.length_append]) (by first | exact dc_all1 _ | rfl | simp [all1]) (fun a w hF hS => hK22 _ _ ?_))
  refine r_done (by kernel_rfl) ?_
  refine hK19 _ _ ?_
  refine c_seq (fun K23 hK23 => ?_)
  refine c_reg ?_
  try dsimp only [List.set] at hS
  rw [Hd.set_sig] at hS
  refine n_q hF hS (q_load0 ty39 rfl (i := 0) rfl (by simp [dc_length, Hd.c_len, En.c_len, List.length_replicate, List.length_cons, List.length_nil, List.length_append]) rfl) rfl (fun a hF => ?_)
  refine n_l rfl (fun K24 hK24 => l_store0A ty39 hF hS rfl rfl (i := 0) rfl (by simp [dc_length, Hd.c_len, En.c_len, List.length_replicate, List.length_cons, List.length_nil, List.length_append]) (by simp [dc_length, Hd.c_len, En.c_len, List.length_replicate, List.length_cons, List.length_nil, List.length_append]) (Hd.c_all1 _) (fun a w hF hS => hK24 _ _ ?_))
  refine n_q hF hS (q_assign rfl) rfl (fun a hF => ?_)
  refine hK23 _ _ ?_
  refine c_ret ?_
  repeat (first | refine ret_then ?_ | refine ret_blk ?_)
  refine c_ret' (P := Tryd.prog) (fn := Tryd.f15) rfl hF hS (.cell0 rfl ty39 (i := 0) rfl (by simp [dc_length, Hd.c_len, En.c_len, List.length_replicate, List.length_cons, List.length_nil, List.length_append]) rfl (.tmp rfl .nil)) ⟨_, rfl, ?_⟩
  have he : signE s f es.length = 0 := by rw [signE_def, if_pos hc17, if_neg (by omega)]
  refine ⟨?_, hS.same⟩
  rw [signH_def, if_pos (by rw [List.length_map, he]), he]
  rfl
end Go.Proofs.YtneokajhmonpaaaDoor

/-! []byte of a constant: the row gets the run-time's mark. -/
namespace Go.W
open Go Go.RowKit
def frO (H : Froz) (b : Nat) (o : Obj) : Froz := fun k => if k = b then some o else H k
theorem St.mark {B : Base} {H : Froz} {L : List Blk} {w w' : World} {b : Nat} {cs : List Value} {T : TypeId} {o : Obj} (h : St B H (⟨b, cs, T⟩ :: L) w) (ho : Only b o w w') : St B (frO H b o) L w' where
  os := ho.os.trans h.os
  tape := ho.tape.trans h.tape
  output := ho.output.trans h.output
  size := by rw [ho.size]; exact h.size
  old k hk hm := by
    refine (ho.other k ?_).trans (h.old k hk hm)
    rintro rfl
    rcases (h.mine _ List.mem_cons_self).1 with h1 | h1
    · exact absurd h1 (by simp only []; omega)
    · exact hm h1
  froz k o' hk := by
    simp only [frO] at hk
    split at hk
    · rename_i e; subst e; rw [← hk]; exact ho.at_
    · rename_i e; exact (ho.other k e).trans (h.froz k o' hk)
  sub k o' hk := by
    simp only [frO]
    split
    · rename_i e
      have h1 := h.sub k o' hk
      have h2 := (h.mine _ List.mem_cons_self).2
      simp only [] at h2
      rw [← e, h1] at h2; cases h2
    · exact h.sub k o' hk
  fresh k o' hk := by
    simp only [frO] at hk
    split at hk
    · rename_i e; rw [e]; exact .inr (h.mine _ List.mem_cons_self).1
    · exact h.fresh k o' hk
  own x hx := by
    have hne : x.b ≠ b := fun e => (List.pairwise_cons.1 h.nodup).1 x hx e.symm
    exact (ho.other x.b hne).trans (h.own x (List.mem_cons_of_mem _ hx))
  mine x hx := by
    have hne : x.b ≠ b := fun e => (List.pairwise_cons.1 h.nodup).1 x hx e.symm
    refine ⟨(h.mine x (List.mem_cons_of_mem _ hx)).1, ?_⟩
    simp only [frO]
    rw [if_neg hne]
    exact (h.mine x (List.mem_cons_of_mem _ hx)).2
  nodup := (List.pairwise_cons.1 h.nodup).2
theorem Only.freeze {w : World} {b n : Nat} {cs : Array Value} {T : TypeId} (h : w.heap[b]? = some (.cells cs T (0, 0))) : Only b (.cells cs T (n, n + 1)) w (w.freeze ⟨b, n, none⟩ 1) := by
  have hlt := (Array.getElem?_eq_some_iff.1 h).1
  unfold World.freeze
  rw [if_neg (by decide)]
  refine ⟨rfl, rfl, rfl, by simp, ?_, fun k hk => ?_⟩
  · simp [Array.getElem?_modify, h]
  · simp [Array.getElem?_modify, Ne.symm hk]
section
variable {P : Program} {ops : Array Oper} {Q : Exit → Act → World → Prop} {n d : Nat} {a : Act} {F : Fr} {w : World} {B : Base} {H : Froz} {L : List Blk}
  {ty T E : TypeId} {pos : String} {after : Array Edge} {x : Operand} {K : Act → World → Prop} {g : Option (Nat × Bool)}
end
end Go.W

/-! A region with a call of yield: its guarded operations behind it. -/
namespace Go.W
open Go Go.RowKit
section
variable {P : Program} {ops : Array Oper} {Q : Exit → Act → World → Prop} {rest : List Oper} {n d : Nat} {a : Act} {F : Fr} {w : World} 
  {op : Op} {ty : TypeId} {pos : String} {after : Array Edge} {v : Value} {g : Option (Nat × Bool)}
theorem y_yes {gb : Nat × Bool} {dst : Option Tmp} (hF : Has n a F) (hv : gval ops F gb.1 = some (.bool gb.2)) (h : wpListIn (Fw none) 0 P ops Q (⟨dst, op, ty, pos, after, none⟩ :: rest) a w) :
    wpListIn (Fw none) 0 P ops Q (⟨dst, op, ty, pos, after, some gb⟩ :: rest) a w := by
  have e := wanted_of (o := ⟨dst, op, ty, pos, after, some gb⟩) rfl hF hv
  unfold wpListIn at h ⊢
  rw [if_pos (by rw [e]; simp)]
  rw [if_pos (by simp [Region.wanted])] at h
  exact h
theorem y_no {gb : Nat × Bool} {b : Bool} (hF : Has n a F) (hv : gval ops F gb.1 = some (.bool b)) (hb : (b == gb.2) = false) (hd : Nat.blt d n = true)
    (k : ∀ a', Has n a' ((d, undef) :: F) → wpListIn (Fw none) 0 P ops Q rest a' w) (ha : ∀ w e, (⟨some d, op, ty, pos, after, some gb⟩ : Oper).about P w e = none := by intros; rfl) : wpListIn (Fw none) 0 P ops Q (⟨some d, op, ty, pos, after, some gb⟩ :: rest) a w := by
  have e := wanted_of (o := ⟨some d, op, ty, pos, after, some gb⟩) rfl hF hv
  exact wpListIn_skip (by rw [e, hb]) (ha _ _) (k _ (hF.put hd undef))
/-- A store behind a range over a function. -/
theorem m_store {ms : List Deferred} {B : Base} {H : Froz} {L : List Blk} {agg : Bool} {sz : Nat} {T : TypeId} {x y : Operand} {i b o : Nat} {cs vs : List Value} {T' : TypeId} {u : Value} (ht : tyS P T = some (agg, sz)) (hF : Has n a F) (hS : St B H L w) {D : Nat} (hD : DefB B H D w) (hx : oev F x = some (.pointer (some ⟨b, o, none⟩))) (hy : oev F y = some u)
    (hi : L[i]? = some ⟨b, cs, T'⟩) (hc : u.cells.toList = vs) (hl : Nat.beq vs.length sz = true) (hb : Nat.ble (o + sz) cs.length = true) (h1 : all1 vs = true)
    (k : ∀ w', St B H (L.set i ⟨b, spl cs o vs, T'⟩) w' → DefB B H D w' → wpList P ops Q rest (wM ms a) w') : wpList P ops Q (⟨none, .store T x y, ty, pos, after, none⟩ :: rest) (wM ms a) w := by
  refine wpList_plain rfl fun K hK => ?_
  have hl' : vs.length = sz := Nat.eq_of_beq_eq_true hl
  have hb' : o + sz ≤ cs.length := Nat.le_of_ble_eq_true hb
  have ho := hS.own _ (List.mem_of_getElem? hi)
  unfold Oper.wp
  have hsz : u.cells.size = sz := by rw [← hl', ← hc]; simp
  have hrow := run_storeCells_at P b o T' vs 0 cs.toArray w ho (by simp; omega) (all1_mem h1)
  have : (storeVar T ⟨b, o, none⟩ u).run P w = .ok () (w.setRow b (spl cs o vs).toArray) := by
    simp only [storeVar, Sem.run_bind, run_sizeOf' ht, Result.andThen_ok, hsz, ne_eq, not_true, if_false, hc]
    simpa [spl] using hrow
  have ex : (wM ms a).eval x = .pointer (some ⟨b, o, none⟩) := (wM_eval ms a x).trans (hF.eval hx)
  have ey : (wM ms a).eval y = u := (wM_eval ms a y).trans (hF.eval hy)
  simp only [execOp, Instr.storeAt, Instr.sureAddr, ex, ey, Sem.run_bind, Sem.run_pure, this, Result.andThen_ok]
  have hD2 : DefB B H D (w.setRow b (spl cs o vs).toArray) := ⟨(Only.other (w := w) (Only.setRow ho) D (fun e => by have h9 := hD.at_; rw [e, ho] at h9; cases h9)).trans hD.at_, hD.ge, hD.no⟩
  exact hK _ _ (k _ (hS.set hi (Only.setRow ho)) hD2)
end
theorem St.rl {B : Base} {H : Froz} {L : List Blk} {w : World} (_h : St B H L w) : Le H H := Le.refl H
/-- Roads that meet: what stands behind them is walked once. -/
theorem c_join {P : Program} {Q : Exit → Act → World → Prop} {n : Nat} {a : Act} {F : Fr} {w : World} {B : Base} {H : Froz} {L : List Blk} {γ : Type} {x y : Code} (hF : Has n a F) (_hS : St B H L w) (W : List Nat) (X : γ → Fr) (Lf : γ → List Blk) (J : γ → Froz → Prop)
    (hy : ∀ g a w H', Le H H' → Has n a (X g ++ rem W F) → St B H' (Lf g) w → J g H' → y.wp P Q a w)
    (hx : ∀ K : Act → World → Prop, (∀ g a w H', Le H H' → Has n a (X g ++ rem W F) → St B H' (Lf g) w → J g H' → K a w) → x.wp P (Exit.then K Q) a w) : (Code.seq x y).wp P Q a w :=
  c_seq fun K hK => hx K fun g a w H' h1 h2 h3 h4 => hK _ _ (hy g a w H' h1 h2 h3 h4)
theorem Ext.remr (W : List Nat) (F : Fr) : Ext W (rem W F) F := fun s v _ hv => fget_rem W F s v hv
/-- The frame where roads meet. -/
theorem Has.meet {n : Nat} {W : List Nat} {X' F0 F' : Fr} {a' : Act} (hF : Has n a' F') (hX : AllIn F' X') (he : Ext W (rem W F0) F') : Has n a' (X' ++ rem W F0) :=
  hF.sub (hX.append fun s v h => he s v (fget_rem_not h) h)
end Go.W

namespace Go.Proofs.YtneokajhmonpaaaDoor
open Go Go.RowKit Go.W
set_option maxRecDepth 10000
open Fx

theorem ends_c (fo : Int) (al : Option Addr) (n cl : Nat) (w : World) (H : Froz) (hz : Fz H w) :
    CallsR Tryd.prog 107 [.int .i64 fo, .slice al n cl] w fun v w' => ∃ bf bl H', v = .func (.func 127) #[] #[.pointer (some ⟨bf, 0, none⟩), .pointer (some ⟨bl, 0, none⟩)] ∧ Le H H' ∧ HR H' bf [.int .i64 fo] ∧ HR H' bl [.slice al n cl] ∧ St ⟨w, H, []⟩ H' [] w' := by
  refine calls_start Tryd.func107 rfl Tryd.ntmps107 rfl (fun a hF => ?_)
  have hS := St.start w H hz
  refine c_seq (fun K1 hK1 => ?_)
  refine c_reg ?_
  refine n_l rfl (fun K2 hK2 => l_box (cs := [_]) hF hS rfl rfl rfl (fun a w b1 hF hS => hK2 _ _ ?_))
  refine n_l rfl (fun K3 hK3 => l_box (cs := [_]) hF hS rfl rfl rfl (fun a w b2 hF hS => hK3 _ _ ?_))
  refine n_q hF hS (q_assign rfl) rfl (fun a hF => ?_)
  refine hK1 _ _ ?_
  refine c_seq (fun K4 hK4 => ?_)
  refine c_reg ?_
  refine n_q hF hS (q_makeFunc rfl rfl) rfl (fun a hF => ?_)
  refine n_q hF hS (q_assign rfl) rfl (fun a hF => ?_)
  refine hK4 _ _ ?_
  refine c_ret ?_
  repeat (first | refine ret_then ?_ | refine ret_blk ?_)
  refine c_ret' (P := Tryd.prog) (fn := Tryd.f107) rfl hF hS (.tmp rfl .nil) ⟨_, rfl, ?_⟩
  obtain ⟨H1, hH1, hle1, hS1⟩ := hS.freeze' (i := 0) rfl
  obtain ⟨H2, hH2, hle2, hS2⟩ := hS1.freeze' (i := 0) rfl
  have hx1 : HR H1 b2 [.slice al n cl] := by rw [hH1]; exact frz_hr
  have hx2 : HR H2 b1 [.int .i64 fo] := by rw [hH2]; exact frz_hr
  exact ⟨b1, b2, H2, rfl, hle1.trans hle2, hx2, hx1.mono hle2, hS2⟩

theorem ends1_c (fo : Int) (ds : List Dg) (al : Option Addr) (cl : Nat) (hn : ds.length ≤ 1000000) (bf bl : Nat) {Γ : Type} (l : Nat) (r0 : Loop) (Lc : Γ → List Blk) (C : Nat → Γ → Froz → Prop) (X : Nat → Code → Γ → Froz → Prop) (γ0 : Γ) (w : World) (H : Froz) (hxf : HR H bf [.int .i64 fo]) (hxl : HR H bl [.slice al ds.length cl]) (hg : Gl 0 1 H) (hr : RdL H al 32 (dgE ds)) (hH0 : Hand w H (Lc γ0)) (hlz : H l = none) (hw0 : w.heap[l]? = some (.loop r0)) (hC0 : C 0 γ0 H) (hRd : RoundsOK Tryd.prog l r0 (ds.length + 1) (endY fo ds) Lc C X H) :
    CallsR Tryd.prog 127 [yv l, .pointer (some ⟨bf, 0, none⟩), .pointer (some ⟨bl, 0, none⟩)] w fun _ w' => IterR l r0 (ds.length + 1) Lc C X H ((Lc γ0).map (·.b)) w w' := by
  refine calls_start Tryd.func127 rfl Tryd.ntmps127 rfl (fun a hF => ?_)
  have hS := St.startG hH0
  refine c_seq (fun K1 hK1 => ?_)
  refine c_reg ?_
  refine n_q hF hS (q_loadG (o := 0) (v := .int .i64 fo) ty3 rfl hxf.h (Nat.le_of_ble_eq_true rfl) rfl rfl) rfl (fun a hF => ?_)
  refine n_l rfl (fun K2 hK2 => l_call en18 hF rfl rfl (SChain_c fo [] none 0 (Nat.zero_le _) _ _ hS.fz hg (RdL.nil _ _ _)) (fun v2 w hR a hF => ?_))
  obtain ⟨rfl, hc⟩ := hR
  replace hS := hS.call0 hc
  refine hK2 _ _ ?_
  refine n_l rfl (fun K3 hK3 => l_alloc hF hS zr35 rfl (fun a w b1 hF hS => hK3 _ _ ?_))
  refine n_l rfl (fun K4 hK4 => l_store0A ty35 hF hS rfl rfl (i := 0) rfl (by simp [dc_length, Hd.c_len, En.c_len, Fk.c_len, List.length_replicate, List.length_cons, List.length_nil, List.length_append]) (by simp [dc_length, Hd.c_len, En.c_len, Fk.c_len, List.length_replicate, List.length_cons, List.length_nil, List.length_append]) (by first | exact dc_all1 _ | rfl | simp [all1]) (fun a w hF hS => hK4 _ _ ?_))
  refine hK1 _ _ ?_
  refine c_seq (fun K5 hK5 => ?_)
  refine c_reg ?_
  refine n_q hF hS (q_assign rfl) rfl (fun a hF => ?_)
  refine hK5 _ _ ?_
  refine c_block ?_
  refine c_loopL hF [5, 8, 9, 10, 11, 12, 13, 14, 15, 16, 17, 18, 19, 20, 21, 22, 23, 24, 25, 26]
    (fun g : Nat × Γ => [(5, .int .i64 (g.1 : Int))])
    (fun g => [⟨b1, dc (chainK fo ds g.1), 35⟩] ++ Lc g.2)
    (fun g H => g.1 ≤ ds.length ∧ C g.1 g.2 H)
    (fun g => ds.length - g.1) ((0, γ0)) ⟨rfl, trivial⟩ ((by rw [chainK_zero]; exact hS)) (⟨Nat.zero_le _, hC0⟩) ?_
  clear hF hS
  intro g a w H hle hF hS hJ
  replace hxf := hxf.mono hle
  replace hxl := hxl.mono hle
  replace hg := hg.mono hle
  replace hr := hr.mono hle
  have hl0 := Le.refl H
  obtain ⟨j, γ⟩ := g
  obtain ⟨hj, hC⟩ := hJ
  try dsimp only at hF hS hj hC
  refine c_seq (fun K6 hK6 => ?_)
  refine c_block ?_
  refine c_seq (fun K7 hK7 => ?_)
  refine c_seq (fun K8 hK8 => ?_)
  refine y_reg ?_
  refine y_q hF hS (q_move rfl) rfl rfl (fun a hF => ?_)
  refine y_q hF hS (q_move rfl) rfl rfl (fun a hF => ?_)
  refine y_q hF hS (q_load0 ty35 rfl (i := 0) rfl (by simp [dc_length, Hd.c_len, En.c_len, Fk.c_len, List.length_replicate, List.length_cons, List.length_nil, List.length_append]) rfl) rfl rfl (fun a hF => ?_)
  have hjb : j < ds.length + 1 := by omega
  have hlw := hS.loop_at hw0 (hH0.loop_not hw0)
  have hln := hS.loop_no hw0 hlz (hH0.loop_not hw0)
  replace hS : St _ _ (Lc γ ++ [⟨b1, dc (chainK fo ds j), 35⟩]) _ := St.perm (L := [⟨b1, dc (chainK fo ds j), 35⟩] ++ Lc γ) hS List.perm_append_comm
  refine y_y rfl (fun K9 hK9 => y_call hF rfl rfl rfl (hRd j hjb _ _ _ hC hle hS.hand hln hlw) (fun v w hR a hF => ?_) (fun e w h => by rcases h with ⟨rfl, _⟩ | ⟨rfl, _⟩ <;> exact ⟨_, rfl⟩))
  rcases hR with ⟨hv, γ', H', hC', hc, hl'⟩ | ⟨hv, γ', H', c', hX', hn', hc, hl'⟩
  obtain rfl := Ending.returned.inj hv
  have hle' := hc.le
  replace hS := hS.callG hc
  replace hxf := hxf.mono hle'
  replace hxl := hxl.mono hle'
  replace hg := hg.mono hle'
  replace hr := hr.mono hle'
  replace hl0 := hl0.mono hle'
  replace hS := St.perm (L := Lc γ' ++ [⟨b1, dc (chainK fo ds j), 35⟩]) (L' := [⟨b1, dc (chainK fo ds j), 35⟩] ++ Lc γ') hS List.perm_append_comm
  refine hK9 _ _ ?_
  refine y_q hF hS (q_not rfl) rfl rfl (fun a hF => ?_)
  refine y_q hF hS (q_move rfl) rfl rfl (fun a hF => ?_)
  refine y_yes hF rfl ?_
  refine y_q hF hS (q_move rfl) rfl rfl (fun a hF => ?_)
  refine y_yes hF rfl ?_
  refine y_q hF hS (q_loadG (o := 0) (v := .slice al ds.length cl) ty45 rfl hxl.h (Nat.le_of_ble_eq_true rfl) rfl rfl) rfl rfl (fun a hF => ?_)
  refine y_yes hF rfl ?_
  refine y_q hF hS (q_len Tryd.underlying45 rfl rfl) rfl rfl (fun a hF => ?_)
  refine y_yes hF rfl ?_
  refine y_q hF hS (q_eqI rfl rfl) rfl rfl (fun a hF => ?_)
  refine y_q hF hS (q_pick (b := false) rfl rfl) rfl rfl (fun a hF => ?_)
  refine hK8 _ _ ?_
  refine spd hF (s := 20) rfl (fun hc20 hF => ?_) (fun hc20 hF => ?_)
  refine c_true hF rfl ?_
  refine c_ret ?_
  repeat (first | refine ret_then ?_ | refine ret_blk ?_)
  refine c_ret' (P := Tryd.prog) (fn := Tryd.f127) rfl hF hS .nil ⟨_, rfl, ?_⟩
  obtain rfl : j = ds.length := by omega
  have hS9 : St _ _ (Lc γ') _ := hS.lose (List.sublist_append_right _ _)
  exact .inl ⟨γ', _, hC', hS9, hS9.loop_at hw0 (hH0.loop_not hw0)⟩
  refine c_false hF rfl ?_
  refine wp_skip ?_
  refine hK7 _ _ ?_
  have hjl : j < ds.length := by omega
  obtain ⟨d, hdd⟩ : ∃ q, q = ds[j] := ⟨_, rfl⟩
  have hel : (dgE ds)[j]? = some (dc d) := by simp [dgE, hdd, hjl]
  refine r_start (fun L => L) [6] mo hS (fun w hS => ?_)
  refine r_q (i := 0) rfl rfl hF hS (q_load0 ty35 rfl (i := 0) rfl (by simp [dc_length, Hd.c_len, En.c_len, Fk.c_len, List.length_replicate, List.length_cons, List.length_nil, List.length_append]) rfl) rfl (fun a hF => ?_)
  refine r_q (i := 1) rfl rfl hF hS (q_loadG (o := 0) (v := .slice al ds.length cl) ty45 rfl hxl.h (Nat.le_of_ble_eq_true rfl) rfl rfl) rfl (fun a hF => ?_)
  refine r_q (i := 2) rfl rfl hF hS (q_move rfl) rfl (fun a hF => ?_)
  refine r_q (i := 3) rfl rfl hF hS (q_indexAddrS Tryd.underlying45 ty35 rfl rfl (by omega) (hr.some (by simp only [dgE, List.length_map]; omega))) rfl (fun a hF => ?_)
  refine r_q (i := 4) rfl rfl hF hS (q_loadL0 (v := .agg (dc d).toArray) ty35 rfl hr hel (by decide) rfl (by simp only [ldv, cond_true, List.drop_zero]; rw [List.take_of_length_le (by rw [dc_length]; exact Nat.le_refl _)])) rfl (fun a hF => ?_)
  refine r_one (i := 5) (by kernel_rfl) ?_
  have hsub := hS.sub
  refine r_li rfl rfl (fun K10 hK10 => l_call en19 hF rfl rfl (DChain_c (chainK fo ds j) d _ _ hS.fz hg) (fun v10 w hR a hF => ?_))
  obtain ⟨rfl, hc⟩ := hR
  replace hS := hS.call0 hc
  refine hK10 _ _ _ hS (fun _ h => h) ?_
  refine r_one (i := 6) (by kernel_rfl) ?_
  refine r_lL rfl rfl rfl (fun K11 hK11 => l_store0A ty35 hF hS rfl rfl (i := 0) rfl (by simp [dc_length, Hd.c_len, En.c_len, Fk.c_len, List.length_replicate, List.length_cons, List.length_nil, List.length_append]) (by simp [dc_length, Hd.c_len, En.c_len, Fk.c_len, List.length_replicate, List.length_cons, List.length_nil, List.length_append]) (by first | exact dc_all1 _ | rfl | simp [all1]) (fun a w hF hS => hK11 _ _ ?_))
  refine r_done (by kernel_rfl) ?_
  refine hK6 _ _ ?_
  refine c_reg ?_
  refine n_q hF hS (q_move rfl) rfl (fun a hF => ?_)
  refine n_q hF hS (q_addI rfl rfl (by omega)) rfl (fun a hF => ?_)
  refine n_q hF hS (q_assign rfl) rfl (fun a hF => ?_)
  exact ⟨(j + 1, γ'), _, (by show ds.length - (j + 1) < ds.length - j; omega), hl0, hF.back ⟨rfl, trivial⟩ rfl (by repeat first | exact Ext.refl _ _ | refine Ext.rem' rfl ?_ | refine Ext.push rfl ?_), (by show St _ _ ([⟨b1, dc (chainK fo ds (j + 1)), 35⟩] ++ Lc γ') _; rw [chainK_succ hjl, ← hdd]; exact hS), ⟨by show j + 1 ≤ _; omega, hC'⟩⟩
  obtain rfl := Ending.returned.inj hv
  have hSl := hS.leave hc
  replace hS := St.start _ _ hc.froz
  refine hK9 _ _ ?_
  refine y_q hF hS (q_not rfl) rfl rfl (fun a hF => ?_)
  refine y_q hF hS (q_move rfl) rfl rfl (fun a hF => ?_)
  refine y_no hF (b := true) rfl rfl rfl (fun a hF => ?_)
  refine y_no hF (b := true) rfl rfl rfl (fun a hF => ?_)
  refine y_no hF (b := true) rfl rfl rfl (fun a hF => ?_)
  refine y_no hF (b := true) rfl rfl rfl (fun a hF => ?_)
  refine y_q hF hS (q_pick (b := true) rfl rfl) rfl rfl (fun a hF => ?_)
  refine hK8 _ _ ?_
  refine c_true hF rfl ?_
  refine c_ret ?_
  repeat (first | refine ret_then ?_ | refine ret_blk ?_)
  refine c_ret' (P := Tryd.prog) (fn := Tryd.f127) rfl hF hS .nil ⟨_, rfl, ?_⟩
  exact .inr ⟨j, γ', H', c', hjb, hX', hn', hSl, hl'⟩

theorem fits_c (h : Hd) (ds : List Dg) (al : Option Addr) (cl : Nat) (hn : ds.length ≤ 1000000) (w : World) (H : Froz) (hz : Fz H w) (hg : Gl 0 1 H) (hr : RdL H al 32 (dgE ds)) :
    CallsR Tryd.prog 77 [.agg h.c.toArray, .slice al ds.length cl] w fun v w' => v = .bool (tb (Fits h ds)) ∧ St ⟨w, H, []⟩ H [] w' := by
  refine callsM_start Tryd.func77 rfl Tryd.ntmps77 rfl (fun a hF => ?_)
  have hS := St.start w H hz
  refine c_seq (fun K1 hK1 => ?_)
  refine c_reg ?_
  refine n_l rfl (fun K2 hK2 => l_boxA hF hS rfl rfl (fun a w b1 hF hS => hK2 _ _ ?_))
  refine n_l rfl (fun K3 hK3 => l_alloc hF hS zr4 rfl (fun a w b2 hF hS => hK3 _ _ ?_))
  refine hK1 _ _ ?_
  refine c_seq (fun K4 hK4 => ?_)
  refine c_seq (fun K5 hK5 => ?_)
  refine c_reg ?_
  refine n_q hF hS (q_fieldAddr fl39_1 (by decide) rfl) rfl (fun a hF => ?_)
  refine n_q hF hS (q_load ty3 rfl (i := 1) rfl (by simp [dc_length, Hd.c_len, En.c_len, Fk.c_len, List.length_replicate, List.length_cons, List.length_nil, List.length_append]) rfl (show ldv false 1 h.c 1 = some (.int .i64 h.fo) from rfl)) rfl (fun a hF => ?_)
  refine n_q hF hS (q_move rfl) rfl (fun a hF => ?_)
  refine n_l rfl (fun K6 hK6 => l_call en107 hF rfl rfl (ends_c h.fo al ds.length cl _ _ hS.fz) (fun v6 w hR a hF => ?_))
  obtain ⟨bf, bl, H1, rfl, hle1, hbf, hbl, hc⟩ := hR
  replace hS := hS.call hc
  replace hg := hg.mono hle1
  replace hr := hr.mono hle1
  refine hK6 _ _ ?_
  refine hK5 _ _ ?_
  refine c_block ?_
  have hF0 := hF
  refine c_rangeF (Γ := Bool) (Lr := []) (N := ds.length + 1) (Lc := fun r => [⟨b2, [.bool r], 4⟩, ⟨b1, h.c, 39⟩]) (C := fun j r _ => r = false ∧ ∀ m, m < j → ¬ (m : Int) = h.no) (X := fun j c r _ => c = .ret ∧ r = tb (Fits h ds)) (γ0 := false) (endY h.fo ds) en127 hF hS rfl (⟨rfl, fun m hm => absurd hm (Nat.not_lt_zero _)⟩) ?_ ?_ ?_ ?_
  intro l r0 w hrs hH hlz hw hR
  exact ends1_c h.fo ds al cl hn bf bl l r0 _ _ _ _ w _ hbf hbl hg hr hH hlz hw ⟨rfl, fun m hm => absurd hm (Nat.not_lt_zero _)⟩ hR
  intro l r0 hrs hrp hps has hbo htm j hj γ H w hC hle hH hlz hw
  refine y_round hF0 hrs hps has hbo htm rfl rfl hH hlz hw (fun a K hF hS hK => ?_)
  replace hg := hg.mono hle
  replace hr := hr.mono hle
  replace hbf := hbf.mono hle
  replace hbl := hbl.mono hle
  obtain ⟨rfl, hno⟩ := hC
  refine k_seq (fun K7 hK7 => ?_)
  refine k_reg (by repeat first | exact nl_round | exact nl_false | refine nl_then ?_ | refine nl_block ?_) rfl ?_
  refine n_q hF hS (q_assign rfl) rfl (fun a hF => ?_)
  refine hK7 _ _ ?_
  refine k_reg (by repeat first | exact nl_round | exact nl_false | refine nl_then ?_ | refine nl_block ?_) rfl ?_
  refine n_l rfl (fun K8 hK8 => l_alloc hF hS zr35 rfl (fun a w b3 hF hS => hK8 _ _ ?_))
  refine n_l rfl (fun K9 hK9 => l_store0A ty35 hF hS rfl rfl (i := 0) rfl (by simp [dc_length, Hd.c_len, En.c_len, Fk.c_len, List.length_replicate, List.length_cons, List.length_nil, List.length_append]) (by simp [dc_length, Hd.c_len, En.c_len, Fk.c_len, List.length_replicate, List.length_cons, List.length_nil, List.length_append]) (by first | exact dc_all1 _ | rfl | simp [all1]) (fun a w hF hS => hK9 _ _ ?_))
  refine hK _ _ _ _ _ hF hS (fun w hS => ?_)
  refine k_block ?_
  refine k_seq (fun K10 hK10 => ?_)
  refine k_reg (by repeat first | exact nl_round | exact nl_false | refine nl_then ?_ | refine nl_block ?_) rfl ?_
  refine n_q hF hS (q_move rfl) rfl (fun a hF => ?_)
  refine n_q hF hS (q_fieldAddr fl39_2 (by decide) rfl) rfl (fun a hF => ?_)
  refine n_q hF hS (q_load ty3 rfl (i := 2) rfl (by simp [dc_length, Hd.c_len, En.c_len, Fk.c_len, List.length_replicate, List.length_cons, List.length_nil, List.length_append]) rfl (show ldv false 1 h.c 2 = some (.int .i64 h.no) from rfl)) rfl (fun a hF => ?_)
  refine n_q hF hS (q_eqI rfl rfl) rfl (fun a hF => ?_)
  refine hK10 _ _ ?_
  refine spd hF (s := 16) rfl (fun hc16 hF => ?_) (fun hc16 hF => ?_)
  refine k_true hF rfl ?_
  refine k_seq (fun K11 hK11 => ?_)
  refine k_reg (by repeat first | exact nl_round | exact nl_false | refine nl_then ?_ | refine nl_block ?_) rfl ?_
  refine n_q hF hS (q_load0 ty35 rfl (i := 0) rfl (by simp [dc_length, Hd.c_len, En.c_len, Fk.c_len, List.length_replicate, List.length_cons, List.length_nil, List.length_append]) rfl) rfl (fun a hF => ?_)
  refine n_q hF hS (q_fieldAddr fl39_3 (by decide) rfl) rfl (fun a hF => ?_)
  refine n_q hF hS (q_load ty35 rfl (i := 2) rfl (by simp [dc_length, Hd.c_len, En.c_len, Fk.c_len, List.length_replicate, List.length_cons, List.length_nil, List.length_append]) rfl (Hd.ld_ch h)) rfl (fun a hF => ?_)
  refine n_q hF hS (q_eqDg gu35 Tryd.underlying35 Tryd.underlying5 ty5 rfl rfl) rfl (fun a hF => ?_)
  refine n_l rfl (fun K12 hK12 => l_store (vs := [_]) ty4 hF hS rfl rfl (i := 1) rfl rfl rfl rfl rfl (fun a w hF hS => hK12 _ _ ?_))
  refine hK11 _ _ ?_
  refine k_ret ?_
  repeat (first | refine ret_then ?_ | refine ret_blk ?_ | refine ex_then ?_ | refine ex_blk ?_)
  exact round_ret hw hlz (hH.loop_not hw) (show St _ _ ([⟨b2, [.bool (decide (chainK h.fo ds j = h.ch))], 4⟩, ⟨b1, h.c, 39⟩]) _ from hS.lose (.cons _ (.refl _))) ⟨rfl, (fits_at hc16.symm (by omega)).symm⟩
  refine k_false hF rfl ?_
  refine k_skipQ ?_
  repeat (first | refine ex_then ?_ | refine ex_blk ?_)
  exact round_norm (a := a) (γ' := false) hrs hrp hw hlz (hH.loop_not hw) (hS.lose (.cons _ (.refl _))) ⟨rfl, fun m hm => by rcases Nat.lt_succ_iff_lt_or_eq.1 hm with hm | rfl; exact hno m hm; exact hc16⟩
  intro γ H w D hC hle hS hD
  replace hg := hg.mono hle
  replace hr := hr.mono hle
  replace hbf := hbf.mono hle
  replace hbl := hbl.mono hle
  obtain ⟨rfl, hno⟩ := hC
  refine hK4 _ _ ?_
  refine c_seq (fun K13 hK13 => ?_)
  refine c_reg ?_
  refine m_store (vs := [_]) ty4 hF hS hD rfl rfl (i := 0) rfl rfl rfl rfl rfl (fun w hS hD => ?_)
  refine hK13 _ _ ?_
  refine c_ret ?_
  repeat (first | refine ret_then ?_ | refine ret_blk ?_ | refine ex_then ?_ | refine ex_blk ?_)
  refine m_ret (P := Tryd.prog) (fn := Tryd.f77) rfl hF hS hD (.cell rfl ty4 (i := 0) rfl rfl rfl rfl .nil) (fun w hS => ⟨_, rfl, ?_⟩)
  exact ⟨by rw [fits_none (fun n hn => hno n (by omega))]; rfl, (hS.lose (List.nil_sublist _)).forget (Le.refl _) hS.le⟩
  intro j γ H w D c hj hX hle hS hD
  replace hg := hg.mono hle
  replace hr := hr.mono hle
  replace hbf := hbf.mono hle
  replace hbl := hbl.mono hle
  obtain ⟨rfl, hr9⟩ := hX
  subst hr9
  refine c_ret ?_
  repeat (first | refine ret_then ?_ | refine ret_blk ?_ | refine ex_then ?_ | refine ex_blk ?_)
  refine m_ret (P := Tryd.prog) (fn := Tryd.f77) rfl hF hS hD (.cell rfl ty4 (i := 0) rfl rfl rfl rfl .nil) (fun w hS => ⟨_, rfl, ?_⟩)
  exact ⟨rfl, (hS.lose (List.nil_sublist _)).forget (Le.refl _) hS.le⟩
end Go.Proofs.YtneokajhmonpaaaDoor

namespace Go.Proofs.YtneokajhmonpaaaDoor
open Go Go.RowKit Go.W
set_option maxRecDepth 10000
open Fx

theorem odd1_c (h : Hd) (ds : List Dg) (al : Option Addr) (cl : Nat) (hn : ds.length ≤ 1000000) (bx : Nat) (w : World) (H : Froz) (hz : Fz H w) (hg : Gl 0 1 H) (hr : RdL H al 32 (dgE ds)) (hbx : HR H bx [.slice al ds.length cl]) :
    CallsR Tryd.prog 126 [.agg h.c.toArray, .pointer (some ⟨bx, 0, none⟩)] w fun v w' => v = .bool (tb (Odd ds h)) ∧ St ⟨w, H, []⟩ H [] w' := by
  refine calls_start Tryd.func126 rfl Tryd.ntmps126 rfl (fun a hF => ?_)
  have hS := St.start w H hz
  refine c_seq (fun K1 hK1 => ?_)
  refine c_reg ?_
  refine n_l rfl (fun K2 hK2 => l_boxA hF hS rfl rfl (fun a w b1 hF hS => hK2 _ _ ?_))
  refine n_q hF hS (q_assign rfl) rfl (fun a hF => ?_)
  refine hK1 _ _ ?_
  refine c_seq (fun K3 hK3 => ?_)
  refine c_reg ?_
  refine n_q hF hS (q_fieldAddr fl39_2 (by decide) rfl) rfl (fun a hF => ?_)
  refine n_q hF hS (q_load ty3 rfl (i := 0) rfl (by simp [dc_length, Hd.c_len, En.c_len, Fk.c_len, List.length_replicate, List.length_cons, List.length_nil, List.length_append]) rfl (show ldv false 1 h.c 2 = some (.int .i64 h.no) from rfl)) rfl (fun a hF => ?_)
  refine n_q hF hS (q_loadG (o := 0) (v := .slice al ds.length cl) ty45 rfl hbx.h (Nat.le_of_ble_eq_true rfl) rfl rfl) rfl (fun a hF => ?_)
  refine n_q hF hS (q_len Tryd.underlying45 rfl rfl) rfl (fun a hF => ?_)
  refine n_q hF hS (q_leq rfl rfl) rfl (fun a hF => ?_)
  refine n_q hF hS (q_move rfl) rfl (fun a hF => ?_)
  refine spd hF (s := 9) rfl (fun hc9 hF => ?_) (fun hc9 hF => ?_)
  refine n_yes hF rfl ?_
  refine n_q hF hS (q_load0 ty39 rfl (i := 0) rfl (by simp [dc_length, Hd.c_len, En.c_len, Fk.c_len, List.length_replicate, List.length_cons, List.length_nil, List.length_append]) rfl) rfl (fun a hF => ?_)
  refine n_yes hF rfl ?_
  refine n_q hF hS (q_loadG (o := 0) (v := .slice al ds.length cl) ty45 rfl hbx.h (Nat.le_of_ble_eq_true rfl) rfl rfl) rfl (fun a hF => ?_)
  refine n_yes hF rfl ?_
  refine n_l rfl (fun K4 hK4 => l_call en77 hF rfl rfl (fits_c h ds al cl hn _ _ hS.fz hg hr) (fun v4 w hR a hF => ?_))
  obtain ⟨rfl, hc⟩ := hR
  replace hS := hS.call0 hc
  refine hK4 _ _ ?_
  refine n_yes hF rfl ?_
  refine n_q hF hS (q_not rfl) rfl (fun a hF => ?_)
  refine n_q hF hS (q_pick (b := true) rfl rfl) rfl (fun a hF => ?_)
  refine n_q hF hS (q_assign rfl) rfl (fun a hF => ?_)
  refine hK3 _ _ ?_
  refine c_ret ?_
  repeat (first | refine ret_then ?_ | refine ret_blk ?_)
  refine c_ret' (P := Tryd.prog) (fn := Tryd.f126) rfl hF hS (.tmp rfl .nil) ⟨_, rfl, ?_⟩
  exact ⟨by rw [odd_yes hc9]; rfl, hS.same⟩
  refine n_no hF (b := false) rfl rfl rfl (fun a hF => ?_)
  refine n_no hF (b := false) rfl rfl rfl (fun a hF => ?_)
  refine n_no hF (b := false) rfl rfl rfl (fun a hF => ?_)
  refine n_no hF (b := false) rfl rfl rfl (fun a hF => ?_)
  refine n_q hF hS (q_pick (b := false) rfl rfl) rfl (fun a hF => ?_)
  refine n_q hF hS (q_assign rfl) rfl (fun a hF => ?_)
  refine hK3 _ _ ?_
  refine c_ret ?_
  repeat (first | refine ret_then ?_ | refine ret_blk ?_)
  refine c_ret' (P := Tryd.prog) (fn := Tryd.f126) rfl hF hS (.tmp rfl .nil) ⟨_, rfl, ?_⟩
  exact ⟨by rw [odd_big hc9]; rfl, hS.same⟩

theorem IndexFuncH_c (hs : List Hd) (ah : Option Addr) (ch : Nat) (hn2 : hs.length ≤ 1000000) (ds : List Dg) (al : Option Addr) (cl : Nat) (hn : ds.length ≤ 1000000) (bx : Nat) (w : World) (H : Froz) (hz : Fz H w) (hg : Gl 0 1 H) (hr : RdL H al 32 (dgE ds)) (hbx : HR H bx [.slice al ds.length cl]) (hrh : RdL H ah 37 (hdE hs)) :
    CallsR Tryd.prog 125 [.slice ah hs.length ch, .func (.func 126) #[] #[.pointer (some ⟨bx, 0, none⟩)]] w fun v w' => v = .int .i64 (oddI hs ds) ∧ St ⟨w, H, []⟩ H [] w' := by
  refine calls_start Tryd.func125 rfl Tryd.ntmps125 rfl (fun a hF => ?_)
  have hS := St.start w H hz
  refine c_seq (fun K1 hK1 => ?_)
  refine c_reg ?_
  refine n_q hF hS (q_assign rfl) rfl (fun a hF => ?_)
  refine hK1 _ _ ?_
  refine c_seq (fun K2 hK2 => ?_)
  refine c_seq (fun K3 hK3 => ?_)
  refine c_reg ?_
  refine n_q hF hS (q_move rfl) rfl (fun a hF => ?_)
  refine n_q hF hS (q_len Tryd.underlying75 rfl rfl) rfl (fun a hF => ?_)
  refine n_q hF hS (q_move rfl) rfl (fun a hF => ?_)
  refine hK3 _ _ ?_
  refine c_block ?_
  refine c_loopL hF [4, 5, 8, 9, 10, 11, 12, 13, 14, 15, 16, 17, 18]
    (fun k : Nat => [(8, .int .i64 (k : Int))])
    (fun _ => [])
    (fun k _ => k ≤ hs.length ∧ ∀ (j : Nat) (x : Hd), j < k → hs[j]? = some x → tb (Odd ds x) = false)
    (fun k => hs.length - k) (0) ⟨rfl, trivial⟩ (hS) (⟨Nat.zero_le _, fun j x h => absurd h (Nat.not_lt_zero _)⟩) ?_
  clear hF hS
  intro k a w H hle hF hS hJ
  replace hr := hr.mono hle
  replace hbx := hbx.mono hle
  replace hrh := hrh.mono hle
  replace hg := hg.mono hle
  have hl0 := Le.refl H
  obtain ⟨hk, hno⟩ := hJ
  try dsimp only at hF hS hk
  refine c_seq (fun K4 hK4 => ?_)
  refine c_reg ?_
  refine n_q hF hS (q_lss rfl rfl) rfl (fun a hF => ?_)
  refine hK4 _ _ ?_
  refine c_seq (fun K5 hK5 => ?_)
  refine spd hF (s := 9) rfl (fun hc9 hF => ?_) (fun hc9 hF => ?_)
  refine c_true hF rfl ?_
  refine wp_skip ?_
  refine hK5 _ _ ?_
  refine c_seq (fun K6 hK6 => ?_)
  refine c_block ?_
  refine c_seq (fun K7 hK7 => ?_)
  refine c_reg ?_
  refine n_q hF hS (q_move rfl) rfl (fun a hF => ?_)
  refine n_q hF hS (q_assign rfl) rfl (fun a hF => ?_)
  refine hK7 _ _ ?_
  refine c_seq (fun K8 hK8 => ?_)
  refine c_reg ?_
  have hlt : k < hs.length := by omega
  obtain ⟨h, hhd⟩ : ∃ q, q = hs[k] := ⟨_, rfl⟩
  have hh? : hs[k]? = some h := by rw [hhd]; simp [hlt]
  have hel := hd_el hh?
  refine n_q hF hS (q_move rfl) rfl (fun a hF => ?_)
  refine n_q hF hS (q_move rfl) rfl (fun a hF => ?_)
  refine n_q hF hS (q_move rfl) rfl (fun a hF => ?_)
  refine n_q hF hS (q_indexAddrS Tryd.underlying75 ty39 rfl rfl (by omega) (hrh.some (by simp only [hdE, List.length_map]; omega))) rfl (fun a hF => ?_)
  refine n_q hF hS (q_loadL0 (v := .agg h.c.toArray) ty39 rfl hrh hel (by decide) rfl (Hd.ld_all h)) rfl (fun a hF => ?_)
  refine n_l rfl (fun K9 hK9 => l_callv en126 hF rfl rfl rfl (odd1_c h ds al cl hn bx _ _ hS.fz hg hr hbx) (fun v9 w hR a hF => ?_))
  obtain ⟨rfl, hc⟩ := hR
  replace hS := hS.call0 hc
  refine hK9 _ _ ?_
  refine hK8 _ _ ?_
  refine sp hF (s := 16) rfl (fun hc16 hF => ?_) (fun hc16 hF => ?_)
  refine c_true hF rfl ?_
  refine c_seq (fun K10 hK10 => ?_)
  refine c_reg ?_
  refine n_q hF hS (q_move rfl) rfl (fun a hF => ?_)
  refine n_q hF hS (q_assign rfl) rfl (fun a hF => ?_)
  refine hK10 _ _ ?_
  refine c_ret ?_
  repeat (first | refine ret_then ?_ | refine ret_blk ?_)
  refine c_ret' (P := Tryd.prog) (fn := Tryd.f125) rfl hF hS (.tmp rfl .nil) ⟨_, rfl, ?_⟩
  exact ⟨by show Value.int _ _ = _; rw [oddI_yes hh? hc16 hno], hS.same⟩
  refine c_false hF rfl ?_
  refine wp_skip ?_
  refine hK6 _ _ ?_
  refine c_reg ?_
  refine n_q hF hS (q_addI rfl rfl (by omega)) rfl (fun a hF => ?_)
  refine n_q hF hS (q_move rfl) rfl (fun a hF => ?_)
  exact ⟨k + 1, _, (by show hs.length - (k + 1) < hs.length - k; omega), hl0, hF.back ⟨rfl, trivial⟩ rfl (by repeat first | exact Ext.refl _ _ | refine Ext.rem' rfl ?_ | refine Ext.push rfl ?_), hS.lose (.refl _), ⟨by show k + 1 ≤ hs.length; omega, fun j x hj hx => by rcases Nat.lt_succ_iff_lt_or_eq.1 hj with hj | rfl; exact hno j x hj hx; rw [hh?] at hx; obtain rfl := Option.some.inj hx; simpa using hc16⟩⟩
  refine c_false hF rfl ?_
  refine c_exit ?_
  refine hK2 _ _ ?_
  refine c_seq (fun K11 hK11 => ?_)
  refine c_reg ?_
  refine n_q hF hS (q_assign rfl) rfl (fun a hF => ?_)
  refine hK11 _ _ ?_
  refine c_ret ?_
  repeat (first | refine ret_then ?_ | refine ret_blk ?_)
  refine c_ret' (P := Tryd.prog) (fn := Tryd.f125) rfl hF hS (.tmp rfl .nil) ⟨_, rfl, ?_⟩
  exact ⟨by show Value.int _ _ = _; rw [oddI_no (fun j x hx => hno j x (by have := (List.getElem?_eq_some_iff.1 hx).1; omega) hx)], hS.same⟩

theorem odd_c (hs : List Hd) (ah : Option Addr) (ch : Nat) (hn2 : hs.length ≤ 1000000) (ds : List Dg) (al : Option Addr) (cl : Nat) (hn : ds.length ≤ 1000000) (w : World) (H : Froz) (hz : Fz H w) (hg : Gl 0 1 H) (hr : RdL H al 32 (dgE ds)) (hrh : RdL H ah 37 (hdE hs)) :
    CallsR Tryd.prog 106 [.slice ah hs.length ch, .slice al ds.length cl] w fun v w' => v = .tuple #[.agg ((oddO hs ds).getD zHd).c.toArray, .bool (oddO hs ds).isSome] ∧ St ⟨w, H, []⟩ H [] w' := by
  refine calls_start Tryd.func106 rfl Tryd.ntmps106 rfl (fun a hF => ?_)
  have hS := St.start w H hz
  refine c_seq (fun K1 hK1 => ?_)
  refine c_reg ?_
  refine n_l rfl (fun K2 hK2 => l_box (cs := [_]) hF hS rfl rfl rfl (fun a w b1 hF hS => hK2 _ _ ?_))
  refine n_l rfl (fun K3 hK3 => l_alloc hF hS zr39 rfl (fun a w b2 hF hS => hK3 _ _ ?_))
  refine n_q hF hS (q_assign rfl) rfl (fun a hF => ?_)
  refine hK1 _ _ ?_
  refine c_seq (fun K4 hK4 => ?_)
  refine c_reg ?_
  obtain ⟨H_hbx, hH_hbx, hle_hbx, hS_hbx⟩ := hS.freeze' (i := 1) rfl
  replace hS := hS_hbx
  replace hg := hg.mono hle_hbx
  replace hr := hr.mono hle_hbx
  replace hrh := hrh.mono hle_hbx
  have hbx : HR H_hbx b1 [.slice al ds.length cl] := by rw [hH_hbx]; exact frz_hr
  refine n_q hF hS (q_move rfl) rfl (fun a hF => ?_)
  refine n_q hF hS (q_makeFunc rfl rfl) rfl (fun a hF => ?_)
  refine n_l rfl (fun K5 hK5 => l_call en125 hF rfl rfl (IndexFuncH_c hs ah ch hn2 ds al cl hn b1 _ _ hS.fz hg hr hbx hrh) (fun v5 w hR a hF => ?_))
  obtain ⟨rfl, hc⟩ := hR
  replace hS := hS.call0 hc
  refine hK5 _ _ ?_
  refine n_q hF hS (q_assign rfl) rfl (fun a hF => ?_)
  refine hK4 _ _ ?_
  refine c_seq (fun K6 hK6 => ?_)
  refine c_seq (fun K7 hK7 => ?_)
  refine c_reg ?_
  refine n_q hF hS (q_move rfl) rfl (fun a hF => ?_)
  refine n_q hF hS (q_lss rfl rfl) rfl (fun a hF => ?_)
  refine hK7 _ _ ?_
  refine spd hF (s := 11) rfl (fun hc11 hF => ?_) (fun hc11 hF => ?_)
  refine c_true hF rfl ?_
  refine c_seq (fun K8 hK8 => ?_)
  refine c_reg ?_
  have hno : oddO hs ds = none := by
    rcases odd_cases hs ds with ⟨_, h2⟩ | ⟨k, h, h1, _, _⟩
    · exact h2
    · omega
  refine n_q hF hS (q_load0 ty39 rfl (i := 0) rfl (by simp [dc_length, Hd.c_len, En.c_len, Fk.c_len, List.length_replicate, List.length_cons, List.length_nil, List.length_append]) rfl) rfl (fun a hF => ?_)
  refine n_l rfl (fun K9 hK9 => l_store0A ty39 hF hS rfl rfl (i := 0) rfl (by simp [dc_length, Hd.c_len, En.c_len, Fk.c_len, List.length_replicate, List.length_cons, List.length_nil, List.length_append]) (by simp [dc_length, Hd.c_len, En.c_len, Fk.c_len, List.length_replicate, List.length_cons, List.length_nil, List.length_append]) (by first | exact dc_all1 _ | rfl | simp [all1]) (fun a w hF hS => hK9 _ _ ?_))
  refine n_q hF hS (q_assign rfl) rfl (fun a hF => ?_)
  refine hK8 _ _ ?_
  refine c_ret ?_
  repeat (first | refine ret_then ?_ | refine ret_blk ?_)
  refine c_ret' (P := Tryd.prog) (fn := Tryd.f106) rfl hF hS (.cell0 rfl ty39 (i := 0) rfl (by simp [dc_length, Hd.c_len, En.c_len, Fk.c_len, List.length_replicate, List.length_cons, List.length_nil, List.length_append]) rfl (.tmp rfl .nil)) ⟨_, rfl, ?_⟩
  exact ⟨by rw [hno]; rfl, hS.same⟩
  refine c_false hF rfl ?_
  refine wp_skip ?_
  refine hK6 _ _ ?_
  refine c_seq (fun K10 hK10 => ?_)
  refine c_reg ?_
  obtain ⟨k, h, hok, hh?, ho⟩ : ∃ (k : Nat) (h : Hd), oddI hs ds = k ∧ hs[k]? = some h ∧ oddO hs ds = some h := by
    rcases odd_cases hs ds with ⟨h1, _⟩ | h2
    · rw [h1] at hc11; exact absurd (by decide) hc11
    · exact h2
  have hlt := (List.getElem?_eq_some_iff.1 hh?).1
  have hel := hd_el hh?
  refine rw_ hF (s := 6) (u := .int .i64 (k : Int)) rfl (by rw [hok]) (fun hF => ?_)
  refine n_q hF hS (q_move rfl) rfl (fun a hF => ?_)
  refine n_q hF hS (q_move rfl) rfl (fun a hF => ?_)
  refine n_q hF hS (q_indexAddrS Tryd.underlying75 ty39 rfl rfl (by omega) (hrh.some (by simp only [hdE, List.length_map]; omega))) rfl (fun a hF => ?_)
  refine n_q hF hS (q_loadL0 (v := .agg h.c.toArray) ty39 rfl hrh hel (by decide) rfl (Hd.ld_all h)) rfl (fun a hF => ?_)
  refine n_l rfl (fun K11 hK11 => l_store0A ty39 hF hS rfl rfl (i := 0) rfl (by simp [dc_length, Hd.c_len, En.c_len, Fk.c_len, List.length_replicate, List.length_cons, List.length_nil, List.length_append]) (by simp [dc_length, Hd.c_len, En.c_len, Fk.c_len, List.length_replicate, List.length_cons, List.length_nil, List.length_append]) (Hd.c_all1 _) (fun a w hF hS => hK11 _ _ ?_))
  refine n_q hF hS (q_assign rfl) rfl (fun a hF => ?_)
  refine hK10 _ _ ?_
  refine c_ret ?_
  repeat (first | refine ret_then ?_ | refine ret_blk ?_)
  refine c_ret' (P := Tryd.prog) (fn := Tryd.f106) rfl hF hS (.cell0 rfl ty39 (i := 0) rfl (by simp [dc_length, Hd.c_len, En.c_len, Fk.c_len, List.length_replicate, List.length_cons, List.length_nil, List.length_append]) rfl (.tmp rfl .nil)) ⟨_, rfl, ?_⟩
  exact ⟨by rw [ho]; rfl, hS.same⟩

theorem last_c (v : Vw) (w : World) (H : Froz) (hz : Fz H w) (ho : VwOK H v) :
    CallsR Tryd.prog 105 [.agg v.c.toArray] w fun r w' => r = .agg (lastH v.hs).c.toArray ∧ St ⟨w, H, []⟩ H [] w' := by
  refine calls_start Tryd.func105 rfl Tryd.ntmps105 rfl (fun a hF => ?_)
  have hS := St.start w H hz
  have hvl := ho.hlen
  refine c_seq (fun K1 hK1 => ?_)
  refine c_reg ?_
  refine n_l rfl (fun K2 hK2 => l_boxA hF hS rfl rfl (fun a w b1 hF hS => hK2 _ _ ?_))
  refine n_l rfl (fun K3 hK3 => l_alloc hF hS zr39 rfl (fun a w b2 hF hS => hK3 _ _ ?_))
  refine hK1 _ _ ?_
  refine c_seq (fun K4 hK4 => ?_)
  refine c_seq (fun K5 hK5 => ?_)
  refine c_reg ?_
  refine n_q hF hS (q_fieldAddr fl134_0 (by decide) rfl) rfl (fun a hF => ?_)
  refine n_q hF hS (q_fieldAddr fl77_4 (by decide) rfl) rfl (fun a hF => ?_)
  refine n_q hF hS (q_load ty75 rfl (i := 1) rfl rfl rfl (show ldv false 1 v.c 4 = some (.slice v.ha v.hs.length v.hp) from rfl)) rfl (fun a hF => ?_)
  refine n_q hF hS (q_len Tryd.underlying75 rfl rfl) rfl (fun a hF => ?_)
  refine n_q hF hS (q_assign rfl) rfl (fun a hF => ?_)
  refine hK5 _ _ ?_
  refine c_seq (fun K6 hK6 => ?_)
  refine c_reg ?_
  refine n_q hF hS (q_move rfl) rfl (fun a hF => ?_)
  refine n_q hF hS (q_gtr rfl rfl) rfl (fun a hF => ?_)
  refine hK6 _ _ ?_
  refine spd hF (s := 9) rfl (fun hc9 hF => ?_) (fun hc9 hF => ?_)
  refine c_true hF rfl ?_
  refine c_seq (fun K7 hK7 => ?_)
  refine c_reg ?_
  refine n_q hF hS (q_fieldAddr fl134_0 (by decide) rfl) rfl (fun a hF => ?_)
  refine n_q hF hS (q_fieldAddr fl77_4 (by decide) rfl) rfl (fun a hF => ?_)
  refine n_q hF hS (q_load ty75 rfl (i := 1) rfl rfl rfl (show ldv false 1 v.c 4 = some (.slice v.ha v.hs.length v.hp) from rfl)) rfl (fun a hF => ?_)
  refine n_q hF hS (q_move rfl) rfl (fun a hF => ?_)
  refine n_q hF hS (q_subI rfl rfl (by omega)) rfl (fun a hF => ?_)
  have hlt : v.hs.length - 1 < v.hs.length := by omega
  obtain ⟨h, hhd⟩ : ∃ q, q = v.hs[v.hs.length - 1] := ⟨_, rfl⟩
  have hh? : v.hs[v.hs.length - 1]? = some h := by rw [hhd]; simp [hlt]
  have hel := hd_el hh?
  refine rw_ hF (s := 14) (u := .int .i64 ((v.hs.length - 1 : Nat) : Int)) rfl (congrArg (Value.int .i64) (by omega)) (fun hF => ?_)
  refine n_q hF hS (q_indexAddrS Tryd.underlying75 ty39 rfl rfl (by omega) (ho.rdh.some (by simp only [hdE, List.length_map]; omega))) rfl (fun a hF => ?_)
  refine n_q hF hS (q_loadL0 (v := .agg h.c.toArray) ty39 rfl ho.rdh hel (by decide) rfl (Hd.ld_all h)) rfl (fun a hF => ?_)
  refine n_l rfl (fun K8 hK8 => l_store0A ty39 hF hS rfl rfl (i := 0) rfl (by simp [dc_length, Hd.c_len, En.c_len, Fk.c_len, List.length_replicate, List.length_cons, List.length_nil, List.length_append]) (by simp [dc_length, Hd.c_len, En.c_len, Fk.c_len, List.length_replicate, List.length_cons, List.length_nil, List.length_append]) (Hd.c_all1 _) (fun a w hF hS => hK8 _ _ ?_))
  refine hK7 _ _ ?_
  refine c_ret ?_
  repeat (first | refine ret_then ?_ | refine ret_blk ?_)
  refine c_ret' (P := Tryd.prog) (fn := Tryd.f105) rfl hF hS (.cell0 rfl ty39 (i := 0) rfl (by simp [dc_length, Hd.c_len, En.c_len, Fk.c_len, List.length_replicate, List.length_cons, List.length_nil, List.length_append]) rfl .nil) ⟨_, rfl, ?_⟩
  exact ⟨by rw [lastH_at hh?]; rfl, hS.same⟩
  refine c_false hF rfl ?_
  refine wp_skip ?_
  refine hK4 _ _ ?_
  refine c_seq (fun K9 hK9 => ?_)
  refine c_reg ?_
  refine n_q hF hS (q_load0 ty39 rfl (i := 0) rfl (by simp [dc_length, Hd.c_len, En.c_len, Fk.c_len, List.length_replicate, List.length_cons, List.length_nil, List.length_append]) rfl) rfl (fun a hF => ?_)
  refine n_l rfl (fun K10 hK10 => l_store0A ty39 hF hS rfl rfl (i := 0) rfl (by simp [dc_length, Hd.c_len, En.c_len, Fk.c_len, List.length_replicate, List.length_cons, List.length_nil, List.length_append]) (by simp [dc_length, Hd.c_len, En.c_len, Fk.c_len, List.length_replicate, List.length_cons, List.length_nil, List.length_append]) (by first | exact dc_all1 _ | rfl | simp [all1]) (fun a w hF hS => hK10 _ _ ?_))
  refine hK9 _ _ ?_
  refine c_ret ?_
  repeat (first | refine ret_then ?_ | refine ret_blk ?_)
  refine c_ret' (P := Tryd.prog) (fn := Tryd.f105) rfl hF hS (.cell0 rfl ty39 (i := 0) rfl (by simp [dc_length, Hd.c_len, En.c_len, Fk.c_len, List.length_replicate, List.length_cons, List.length_nil, List.length_append]) rfl .nil) ⟨_, rfl, ?_⟩
  exact ⟨by rw [lastH_nil (by omega)]; rfl, hS.same⟩

theorem owns_c (v : Vw) (h : Hd) (w : World) (H : Froz) (hz : Fz H w) (hg : Gl 0 1 H) :
    CallsR Tryd.prog 75 [.agg v.c.toArray, .agg h.c.toArray] w fun r w' => r = .bool (tb (Owns v h)) ∧ St ⟨w, H, []⟩ H [] w' := by
  refine calls_start Tryd.func75 rfl Tryd.ntmps75 rfl (fun a hF => ?_)
  have hS := St.start w H hz
  refine c_seq (fun K1 hK1 => ?_)
  refine c_reg ?_
  refine n_l rfl (fun K2 hK2 => l_boxA hF hS rfl rfl (fun a w b1 hF hS => hK2 _ _ ?_))
  refine n_l rfl (fun K3 hK3 => l_boxA hF hS rfl rfl (fun a w b2 hF hS => hK3 _ _ ?_))
  refine n_q hF hS (q_assign rfl) rfl (fun a hF => ?_)
  refine hK1 _ _ ?_
  refine c_seq (fun K4 hK4 => ?_)
  refine c_reg ?_
  refine n_q hF hS (q_fieldAddr fl39_0 (by decide) rfl) rfl (fun a hF => ?_)
  refine n_q hF hS (q_load ty3 rfl (i := 0) rfl (by simp [dc_length, Hd.c_len, En.c_len, Fk.c_len, List.length_replicate, List.length_cons, List.length_nil, List.length_append]) rfl (show ldv false 1 h.c 0 = some (.int .i64 h.st) from rfl)) rfl (fun a hF => ?_)
  refine n_q hF hS (q_fieldAddr fl134_0 (by decide) rfl) rfl (fun a hF => ?_)
  refine n_q hF hS (q_fieldAddr fl77_0 (by decide) rfl) rfl (fun a hF => ?_)
  refine n_q hF hS (q_load ty3 rfl (i := 1) rfl rfl rfl (show ldv false 1 v.c 0 = some (.int .i64 v.st) from rfl)) rfl (fun a hF => ?_)
  refine n_q hF hS (q_eqI rfl rfl) rfl (fun a hF => ?_)
  refine n_q hF hS (q_move rfl) rfl (fun a hF => ?_)
  refine spd hF (s := 11) rfl (fun hc11 hF => ?_) (fun hc11 hF => ?_)
  refine n_yes hF rfl ?_
  refine n_q hF hS (q_fieldAddr fl39_1 (by decide) rfl) rfl (fun a hF => ?_)
  refine n_yes hF rfl ?_
  refine n_q hF hS (q_load ty3 rfl (i := 0) rfl (by simp [dc_length, Hd.c_len, En.c_len, Fk.c_len, List.length_replicate, List.length_cons, List.length_nil, List.length_append]) rfl (show ldv false 1 h.c 1 = some (.int .i64 h.fo) from rfl)) rfl (fun a hF => ?_)
  refine n_yes hF rfl ?_
  refine n_q hF hS (q_fieldAddr fl134_0 (by decide) rfl) rfl (fun a hF => ?_)
  refine n_yes hF rfl ?_
  refine n_q hF hS (q_fieldAddr fl77_1 (by decide) rfl) rfl (fun a hF => ?_)
  refine n_yes hF rfl ?_
  refine n_q hF hS (q_load ty3 rfl (i := 1) rfl rfl rfl (show ldv false 1 v.c 1 = some (.int .i64 v.fo) from rfl)) rfl (fun a hF => ?_)
  refine n_yes hF rfl ?_
  refine n_q hF hS (q_eqI rfl rfl) rfl (fun a hF => ?_)
  refine n_q hF hS (q_pick (b := true) rfl rfl) rfl (fun a hF => ?_)
  refine n_q hF hS (q_move rfl) rfl (fun a hF => ?_)
  refine spd hF (s := 19) rfl (fun hc19 hF => ?_) (fun hc19 hF => ?_)
  refine n_yes hF rfl ?_
  refine n_q hF hS (q_fieldAddr fl134_0 (by decide) rfl) rfl (fun a hF => ?_)
  refine n_yes hF rfl ?_
  refine n_q hF hS (q_fieldAddr fl77_2 (by decide) rfl) rfl (fun a hF => ?_)
  refine n_yes hF rfl ?_
  refine n_q hF hS (q_load ty3 rfl (i := 1) rfl rfl rfl (show ldv false 1 v.c 2 = some (.int .i64 v.pub) from rfl)) rfl (fun a hF => ?_)
  refine n_yes hF rfl ?_
  refine n_q hF hS (q_load0 ty39 rfl (i := 0) rfl (by simp [dc_length, Hd.c_len, En.c_len, Fk.c_len, List.length_replicate, List.length_cons, List.length_nil, List.length_append]) rfl) rfl (fun a hF => ?_)
  refine n_yes hF rfl ?_
  refine n_l rfl (fun K5 hK5 => l_call en17 hF rfl rfl (SV_c v.pub h _ _ hS.fz hg) (fun v5 w hR a hF => ?_))
  obtain ⟨rfl, hc⟩ := hR
  replace hS := hS.call0 hc
  refine hK5 _ _ ?_
  refine n_q hF hS (q_pick (b := true) rfl rfl) rfl (fun a hF => ?_)
  refine n_q hF hS (q_assign rfl) rfl (fun a hF => ?_)
  refine hK4 _ _ ?_
  refine c_ret ?_
  repeat (first | refine ret_then ?_ | refine ret_blk ?_)
  refine c_ret' (P := Tryd.prog) (fn := Tryd.f75) rfl hF hS (.tmp rfl .nil) ⟨_, rfl, ?_⟩
  exact ⟨by rw [owns_yes hc11 hc19]; rfl, hS.same⟩
  refine n_no hF (b := false) rfl rfl rfl (fun a hF => ?_)
  refine n_no hF (b := false) rfl rfl rfl (fun a hF => ?_)
  refine n_no hF (b := false) rfl rfl rfl (fun a hF => ?_)
  refine n_no hF (b := false) rfl rfl rfl (fun a hF => ?_)
  refine n_no hF (b := false) rfl rfl rfl (fun a hF => ?_)
  refine n_q hF hS (q_pick (b := false) rfl rfl) rfl (fun a hF => ?_)
  refine n_q hF hS (q_assign rfl) rfl (fun a hF => ?_)
  refine hK4 _ _ ?_
  refine c_ret ?_
  repeat (first | refine ret_then ?_ | refine ret_blk ?_)
  refine c_ret' (P := Tryd.prog) (fn := Tryd.f75) rfl hF hS (.tmp rfl .nil) ⟨_, rfl, ?_⟩
  exact ⟨by rw [owns_no (fun q => hc19 q.2)]; rfl, hS.same⟩
  refine n_no hF (b := false) rfl rfl rfl (fun a hF => ?_)
  refine n_no hF (b := false) rfl rfl rfl (fun a hF => ?_)
  refine n_no hF (b := false) rfl rfl rfl (fun a hF => ?_)
  refine n_no hF (b := false) rfl rfl rfl (fun a hF => ?_)
  refine n_no hF (b := false) rfl rfl rfl (fun a hF => ?_)
  refine n_no hF (b := false) rfl rfl rfl (fun a hF => ?_)
  refine n_q hF hS (q_pick (b := false) rfl rfl) rfl (fun a hF => ?_)
  refine n_q hF hS (q_move rfl) rfl (fun a hF => ?_)
  refine n_no hF (b := false) rfl rfl rfl (fun a hF => ?_)
  refine n_no hF (b := false) rfl rfl rfl (fun a hF => ?_)
  refine n_no hF (b := false) rfl rfl rfl (fun a hF => ?_)
  refine n_no hF (b := false) rfl rfl rfl (fun a hF => ?_)
  refine n_no hF (b := false) rfl rfl rfl (fun a hF => ?_)
  refine n_q hF hS (q_pick (b := false) rfl rfl) rfl (fun a hF => ?_)
  refine n_q hF hS (q_assign rfl) rfl (fun a hF => ?_)
  refine hK4 _ _ ?_
  refine c_ret ?_
  repeat (first | refine ret_then ?_ | refine ret_blk ?_)
  refine c_ret' (P := Tryd.prog) (fn := Tryd.f75) rfl hF hS (.tmp rfl .nil) ⟨_, rfl, ?_⟩
  exact ⟨by rw [owns_no (fun q => hc11 q.1)]; rfl, hS.same⟩
end Go.Proofs.YtneokajhmonpaaaDoor

namespace Go.Proofs.YtneokajhmonpaaaDoor
open Go Go.RowKit Go.W
set_option maxRecDepth 10000
open Fx

set_option maxHeartbeats 800000 in
theorem valid_v_c (v : Vw) (w : World) (H : Froz) (hz : Fz H w) (hg : Gl 0 1 H) (ho : VwOK H v) :
    CallsR Tryd.prog 73 [.agg v.c.toArray] w fun r w' => r = .bool (tb (Valid v)) ∧ St ⟨w, H, []⟩ H [] w' := by
  refine calls_start Tryd.func73 rfl Tryd.ntmps73 rfl (fun a hF => ?_)
  have hS := St.start w H hz
  have hvl := ho.hlen
  have hdl := ho.dlen
  refine c_seq (fun K1 hK1 => ?_)
  refine c_reg ?_
  refine n_l rfl (fun K2 hK2 => l_boxA hF hS rfl rfl (fun a w b1 hF hS => hK2 _ _ ?_))
  refine n_q hF hS (q_assign rfl) rfl (fun a hF => ?_)
  refine hK1 _ _ ?_
  refine c_seq (fun K3 hK3 => ?_)
  refine c_seq (fun K4 hK4 => ?_)
  obtain ⟨H_hbx, hH_hbx, hle_hbx, hS_hbx⟩ := hS.freeze' (i := 0) rfl
  replace hS := hS_hbx
  replace hg := hg.mono hle_hbx
  replace ho := ho.mono hle_hbx
  have hbx : HR H_hbx b1 v.c := by rw [hH_hbx]; exact frz_hr
  refine r_start (fun L => L) [] mo hS (fun w hS => ?_)
  refine r_q (i := 0) rfl rfl hF hS (q_fieldAddr fl134_0 (by decide) rfl) rfl (fun a hF => ?_)
  refine r_q (i := 1) rfl rfl hF hS (q_fieldAddr fl77_0 (by decide) rfl) rfl (fun a hF => ?_)
  refine r_q (i := 2) rfl rfl hF hS (q_loadG (o := 0 + 0 + 0) (v := .int .i64 v.st) ty3 rfl hbx.h (Nat.le_of_ble_eq_true rfl) rfl rfl) rfl (fun a hF => ?_)
  refine r_q (i := 3) rfl rfl hF hS (q_lss rfl rfl) rfl (fun a hF => ?_)
  refine r_q (i := 4) rfl rfl hF hS (q_move rfl) rfl (fun a hF => ?_)
  refine spd hF (s := 9) rfl (fun hc9 hF => ?_) (fun hc9 hF => ?_)
  refine r_no (b := true) (i := 5) rfl rfl hF hS rfl rfl rfl (fun a hF => ?_)
  refine r_no (b := true) (i := 6) rfl rfl hF hS rfl rfl rfl (fun a hF => ?_)
  refine r_no (b := true) (i := 7) rfl rfl hF hS rfl rfl rfl (fun a hF => ?_)
  refine r_no (b := true) (i := 8) rfl rfl hF hS rfl rfl rfl (fun a hF => ?_)
  refine r_q (i := 9) rfl rfl hF hS (q_pick (b := true) rfl rfl) rfl (fun a hF => ?_)
  refine r_q (i := 10) rfl rfl hF hS (q_move rfl) rfl (fun a hF => ?_)
  refine r_no (b := true) (i := 11) rfl rfl hF hS rfl rfl rfl (fun a hF => ?_)
  refine r_no (b := true) (i := 12) rfl rfl hF hS rfl rfl rfl (fun a hF => ?_)
  refine r_no (b := true) (i := 13) rfl rfl hF hS rfl rfl rfl (fun a hF => ?_)
  refine r_no (b := true) (i := 14) rfl rfl hF hS rfl rfl rfl (fun a hF => ?_)
  refine r_q (i := 15) rfl rfl hF hS (q_pick (b := true) rfl rfl) rfl (fun a hF => ?_)
  refine r_q (i := 16) rfl rfl hF hS (q_move rfl) rfl (fun a hF => ?_)
  refine r_no (b := true) (i := 17) rfl rfl hF hS rfl rfl rfl (fun a hF => ?_)
  refine r_no (b := true) (i := 18) rfl rfl hF hS rfl rfl rfl (fun a hF => ?_)
  refine r_no (b := true) (i := 19) rfl rfl hF hS rfl rfl rfl (fun a hF => ?_)
  refine r_no (b := true) (i := 20) rfl rfl hF hS rfl rfl rfl (fun a hF => ?_)
  refine r_q (i := 21) rfl rfl hF hS (q_pick (b := true) rfl rfl) rfl (fun a hF => ?_)
  refine r_q (i := 22) rfl rfl hF hS (q_move rfl) rfl (fun a hF => ?_)
  refine r_no (b := true) (i := 23) rfl rfl hF hS rfl rfl rfl (fun a hF => ?_)
  refine r_no (b := true) (i := 24) rfl rfl hF hS rfl rfl rfl (fun a hF => ?_)
  refine r_no (b := true) (i := 25) rfl rfl hF hS rfl rfl rfl (fun a hF => ?_)
  refine r_no (b := true) (i := 26) rfl rfl hF hS rfl rfl rfl (fun a hF => ?_)
  refine r_no (b := true) (i := 27) rfl rfl hF hS rfl rfl rfl (fun a hF => ?_)
  refine r_no (b := true) (i := 28) rfl rfl hF hS rfl rfl rfl (fun a hF => ?_)
  refine r_no (b := true) (i := 29) rfl rfl hF hS rfl rfl rfl (fun a hF => ?_)
  refine r_no (b := true) (i := 30) rfl rfl hF hS rfl rfl rfl (fun a hF => ?_)
  refine r_q (i := 31) rfl rfl hF hS (q_pick (b := true) rfl rfl) rfl (fun a hF => ?_)
  refine r_done (by kernel_rfl) ?_
  refine hK4 _ _ ?_
  refine c_true hF rfl ?_
  refine c_seq (fun K5 hK5 => ?_)
  refine c_reg ?_
  refine n_q hF hS (q_assign rfl) rfl (fun a hF => ?_)
  refine hK5 _ _ ?_
  refine c_ret ?_
  repeat (first | refine ret_then ?_ | refine ret_blk ?_)
  refine c_ret' (P := Tryd.prog) (fn := Tryd.f73) rfl hF hS (.tmp rfl .nil) ⟨_, rfl, ?_⟩
  exact ⟨by rw [tb_false (fun q => by obtain ⟨q1, q2, q3, _⟩ := q; omega)]; rfl, hS.same⟩
  refine r_qg (i := 5) rfl rfl hF hS rfl (q_fieldAddr fl134_0 (by decide) rfl) rfl (fun a hF => ?_)
  refine r_qg (i := 6) rfl rfl hF hS rfl (q_fieldAddr fl77_0 (by decide) rfl) rfl (fun a hF => ?_)
  refine r_qg (i := 7) rfl rfl hF hS rfl (q_loadG (o := 0 + 0 + 0) (v := .int .i64 v.st) ty3 rfl hbx.h (Nat.le_of_ble_eq_true rfl) rfl rfl) rfl (fun a hF => ?_)
  refine r_qg (i := 8) rfl rfl hF hS rfl (q_geq rfl rfl) rfl (fun a hF => ?_)
  refine r_q (i := 9) rfl rfl hF hS (q_pick (b := false) rfl rfl) rfl (fun a hF => ?_)
  refine r_q (i := 10) rfl rfl hF hS (q_move rfl) rfl (fun a hF => ?_)
  refine spd hF (s := 15) rfl (fun hc15 hF => ?_) (fun hc15 hF => ?_)
  refine r_no (b := true) (i := 11) rfl rfl hF hS rfl rfl rfl (fun a hF => ?_)
  refine r_no (b := true) (i := 12) rfl rfl hF hS rfl rfl rfl (fun a hF => ?_)
  refine r_no (b := true) (i := 13) rfl rfl hF hS rfl rfl rfl (fun a hF => ?_)
  refine r_no (b := true) (i := 14) rfl rfl hF hS rfl rfl rfl (fun a hF => ?_)
  refine r_q (i := 15) rfl rfl hF hS (q_pick (b := true) rfl rfl) rfl (fun a hF => ?_)
  refine r_q (i := 16) rfl rfl hF hS (q_move rfl) rfl (fun a hF => ?_)
  refine r_no (b := true) (i := 17) rfl rfl hF hS rfl rfl rfl (fun a hF => ?_)
  refine r_no (b := true) (i := 18) rfl rfl hF hS rfl rfl rfl (fun a hF => ?_)
  refine r_no (b := true) (i := 19) rfl rfl hF hS rfl rfl rfl (fun a hF => ?_)
  refine r_no (b := true) (i := 20) rfl rfl hF hS rfl rfl rfl (fun a hF => ?_)
  refine r_q (i := 21) rfl rfl hF hS (q_pick (b := true) rfl rfl) rfl (fun a hF => ?_)
  refine r_q (i := 22) rfl rfl hF hS (q_move rfl) rfl (fun a hF => ?_)
  refine r_no (b := true) (i := 23) rfl rfl hF hS rfl rfl rfl (fun a hF => ?_)
  refine r_no (b := true) (i := 24) rfl rfl hF hS rfl rfl rfl (fun a hF => ?_)
  refine r_no (b := true) (i := 25) rfl rfl hF hS rfl rfl rfl (fun a hF => ?_)
  refine r_no (b := true) (i := 26) rfl rfl hF hS rfl rfl rfl (fun a hF => ?_)
  refine r_no (b := true) (i := 27) rfl rfl hF hS rfl rfl rfl (fun a hF => ?_)
  refine r_no (b := true) (i := 28) rfl rfl hF hS rfl rfl rfl (fun a hF => ?_)
  refine r_no (b := true) (i := 29) rfl rfl hF hS rfl rfl rfl (fun a hF => ?_)
  refine r_no (b := true) (i := 30) rfl rfl hF hS rfl rfl rfl (fun a hF => ?_)
  refine r_q (i := 31) rfl rfl hF hS (q_pick (b := true) rfl rfl) rfl (fun a hF => ?_)
  refine r_done (by kernel_rfl) ?_
  refine hK4 _ _ ?_
  refine c_true hF rfl ?_
  refine c_seq (fun K6 hK6 => ?_)
  refine c_reg ?_
  refine n_q hF hS (q_assign rfl) rfl (fun a hF => ?_)
  refine hK6 _ _ ?_
  refine c_ret ?_
  repeat (first | refine ret_then ?_ | refine ret_blk ?_)
  refine c_ret' (P := Tryd.prog) (fn := Tryd.f73) rfl hF hS (.tmp rfl .nil) ⟨_, rfl, ?_⟩
  exact ⟨by rw [tb_false (fun q => by obtain ⟨q1, q2, q3, _⟩ := q; omega)]; rfl, hS.same⟩
  refine r_qg (i := 11) rfl rfl hF hS rfl (q_fieldAddr fl134_0 (by decide) rfl) rfl (fun a hF => ?_)
  refine r_qg (i := 12) rfl rfl hF hS rfl (q_fieldAddr fl77_1 (by decide) rfl) rfl (fun a hF => ?_)
  refine r_qg (i := 13) rfl rfl hF hS rfl (q_loadG (o := 0 + 0 + 1) (v := .int .i64 v.fo) ty3 rfl hbx.h (Nat.le_of_ble_eq_true rfl) rfl rfl) rfl (fun a hF => ?_)
  refine r_qg (i := 14) rfl rfl hF hS rfl (q_lss rfl rfl) rfl (fun a hF => ?_)
  refine r_q (i := 15) rfl rfl hF hS (q_pick (b := false) rfl rfl) rfl (fun a hF => ?_)
  refine r_q (i := 16) rfl rfl hF hS (q_move rfl) rfl (fun a hF => ?_)
  refine spd hF (s := 21) rfl (fun hc21 hF => ?_) (fun hc21 hF => ?_)
  refine r_no (b := true) (i := 17) rfl rfl hF hS rfl rfl rfl (fun a hF => ?_)
  refine r_no (b := true) (i := 18) rfl rfl hF hS rfl rfl rfl (fun a hF => ?_)
  refine r_no (b := true) (i := 19) rfl rfl hF hS rfl rfl rfl (fun a hF => ?_)
  refine r_no (b := true) (i := 20) rfl rfl hF hS rfl rfl rfl (fun a hF => ?_)
  refine r_q (i := 21) rfl rfl hF hS (q_pick (b := true) rfl rfl) rfl (fun a hF => ?_)
  refine r_q (i := 22) rfl rfl hF hS (q_move rfl) rfl (fun a hF => ?_)
  refine r_no (b := true) (i := 23) rfl rfl hF hS rfl rfl rfl (fun a hF => ?_)
  refine r_no (b := true) (i := 24) rfl rfl hF hS rfl rfl rfl (fun a hF => ?_)
  refine r_no (b := true) (i := 25) rfl rfl hF hS rfl rfl rfl (fun a hF => ?_)
  refine r_no (b := true) (i := 26) rfl rfl hF hS rfl rfl rfl (fun a hF => ?_)
  refine r_no (b := true) (i := 27) rfl rfl hF hS rfl rfl rfl (fun a hF => ?_)
  refine r_no (b := true) (i := 28) rfl rfl hF hS rfl rfl rfl (fun a hF => ?_)
  refine r_no (b := true) (i := 29) rfl rfl hF hS rfl rfl rfl (fun a hF => ?_)
  refine r_no (b := true) (i := 30) rfl rfl hF hS rfl rfl rfl (fun a hF => ?_)
  refine r_q (i := 31) rfl rfl hF hS (q_pick (b := true) rfl rfl) rfl (fun a hF => ?_)
  refine r_done (by kernel_rfl) ?_
  refine hK4 _ _ ?_
  refine c_true hF rfl ?_
  refine c_seq (fun K7 hK7 => ?_)
  refine c_reg ?_
  refine n_q hF hS (q_assign rfl) rfl (fun a hF => ?_)
  refine hK7 _ _ ?_
  refine c_ret ?_
  repeat (first | refine ret_then ?_ | refine ret_blk ?_)
  refine c_ret' (P := Tryd.prog) (fn := Tryd.f73) rfl hF hS (.tmp rfl .nil) ⟨_, rfl, ?_⟩
  exact ⟨by rw [tb_false (fun q => by obtain ⟨q1, q2, q3, _⟩ := q; omega)]; rfl, hS.same⟩
  refine r_qg (i := 17) rfl rfl hF hS rfl (q_fieldAddr fl134_0 (by decide) rfl) rfl (fun a hF => ?_)
  refine r_qg (i := 18) rfl rfl hF hS rfl (q_fieldAddr fl77_1 (by decide) rfl) rfl (fun a hF => ?_)
  refine r_qg (i := 19) rfl rfl hF hS rfl (q_loadG (o := 0 + 0 + 1) (v := .int .i64 v.fo) ty3 rfl hbx.h (Nat.le_of_ble_eq_true rfl) rfl rfl) rfl (fun a hF => ?_)
  refine r_qg (i := 20) rfl rfl hF hS rfl (q_geq rfl rfl) rfl (fun a hF => ?_)
  refine r_q (i := 21) rfl rfl hF hS (q_pick (b := false) rfl rfl) rfl (fun a hF => ?_)
  refine r_q (i := 22) rfl rfl hF hS (q_move rfl) rfl (fun a hF => ?_)
  refine spd hF (s := 27) rfl (fun hc27 hF => ?_) (fun hc27 hF => ?_)
  refine r_no (b := true) (i := 23) rfl rfl hF hS rfl rfl rfl (fun a hF => ?_)
  refine r_no (b := true) (i := 24) rfl rfl hF hS rfl rfl rfl (fun a hF => ?_)
  refine r_no (b := true) (i := 25) rfl rfl hF hS rfl rfl rfl (fun a hF => ?_)
  refine r_no (b := true) (i := 26) rfl rfl hF hS rfl rfl rfl (fun a hF => ?_)
  refine r_no (b := true) (i := 27) rfl rfl hF hS rfl rfl rfl (fun a hF => ?_)
  refine r_no (b := true) (i := 28) rfl rfl hF hS rfl rfl rfl (fun a hF => ?_)
  refine r_no (b := true) (i := 29) rfl rfl hF hS rfl rfl rfl (fun a hF => ?_)
  refine r_no (b := true) (i := 30) rfl rfl hF hS rfl rfl rfl (fun a hF => ?_)
  refine r_q (i := 31) rfl rfl hF hS (q_pick (b := true) rfl rfl) rfl (fun a hF => ?_)
  refine r_done (by kernel_rfl) ?_
  refine hK4 _ _ ?_
  refine c_true hF rfl ?_
  refine c_seq (fun K8 hK8 => ?_)
  refine c_reg ?_
  refine n_q hF hS (q_assign rfl) rfl (fun a hF => ?_)
  refine hK8 _ _ ?_
  refine c_ret ?_
  repeat (first | refine ret_then ?_ | refine ret_blk ?_)
  refine c_ret' (P := Tryd.prog) (fn := Tryd.f73) rfl hF hS (.tmp rfl .nil) ⟨_, rfl, ?_⟩
  exact ⟨by rw [tb_false (fun q => by obtain ⟨q1, q2, q3, _⟩ := q; omega)]; rfl, hS.same⟩
  refine r_qg (i := 23) rfl rfl hF hS rfl (q_loadG (o := 0) (v := .agg v.c.toArray) ty134 rfl hbx.h (Nat.le_of_ble_eq_true rfl) rfl rfl) rfl (fun a hF => ?_)
  refine r_qg (i := 26) rfl rfl hF hS rfl (q_fieldAddr fl134_0 (by decide) rfl) rfl (fun a hF => ?_)
  refine r_qg (i := 27) rfl rfl hF hS rfl (q_fieldAddr fl77_3 (by decide) rfl) rfl (fun a hF => ?_)
  refine r_qg (i := 28) rfl rfl hF hS rfl (q_loadG (o := 0 + 0 + 3) (v := .slice v.da v.ds.length v.dp) ty45 rfl hbx.h (Nat.le_of_ble_eq_true rfl) rfl rfl) rfl (fun a hF => ?_)
  refine r_qg (i := 29) rfl rfl hF hS rfl (q_len Tryd.underlying45 rfl rfl) rfl (fun a hF => ?_)
  refine r_one (i := 24) (by kernel_rfl) ?_
  have hsub := hS.sub
  refine r_lig rfl rfl hF rfl (fun K9 hK9 => l_call en105 hF rfl rfl (last_c v _ _ hS.fz ho) (fun v9 w hR a hF => ?_))
  obtain ⟨rfl, hc⟩ := hR
  replace hS := hS.call0 hc
  refine hK9 _ _ _ hS (fun _ h => h) ?_
  refine r_qg (i := 25) rfl rfl hF hS rfl (q_field fl39_2 ty3 (fun fs h => by rw [Tryd.underlying39] at h; cases h; rfl) rfl rfl) rfl (fun a hF => ?_)
  refine r_qg (i := 30) rfl rfl hF hS rfl (q_neI rfl rfl) rfl (fun a hF => ?_)
  refine r_q (i := 31) rfl rfl hF hS (q_pick (b := false) rfl rfl) rfl (fun a hF => ?_)
  refine r_done (by kernel_rfl) ?_
  refine hK4 _ _ ?_
  refine spn hF (s := 36) rfl (fun hc36 hF => ?_) (fun hc36 hF => ?_)
  refine c_true hF rfl ?_
  refine c_seq (fun K10 hK10 => ?_)
  refine c_reg ?_
  refine n_q hF hS (q_assign rfl) rfl (fun a hF => ?_)
  refine hK10 _ _ ?_
  refine c_ret ?_
  repeat (first | refine ret_then ?_ | refine ret_blk ?_)
  refine c_ret' (P := Tryd.prog) (fn := Tryd.f73) rfl hF hS (.tmp rfl .nil) ⟨_, rfl, ?_⟩
  exact ⟨by rw [tb_false (fun q => by obtain ⟨q1, q2, q3, _⟩ := q; omega)]; rfl, hS.same⟩
  refine c_false hF rfl ?_
  refine wp_skip ?_
  refine hK3 _ _ ?_
  refine c_seq (fun K11 hK11 => ?_)
  refine c_seq (fun K12 hK12 => ?_)
  refine c_reg ?_
  refine n_q hF hS (q_fieldAddr fl134_0 (by decide) rfl) rfl (fun a hF => ?_)
  refine n_q hF hS (q_fieldAddr fl77_4 (by decide) rfl) rfl (fun a hF => ?_)
  refine n_q hF hS (q_loadG (o := 0 + 0 + 4) (v := .slice v.ha v.hs.length v.hp) ty75 rfl hbx.h (Nat.le_of_ble_eq_true rfl) rfl rfl) rfl (fun a hF => ?_)
  refine n_q hF hS (q_len Tryd.underlying75 rfl rfl) rfl (fun a hF => ?_)
  refine n_q hF hS (q_move rfl) rfl (fun a hF => ?_)
  refine hK12 _ _ ?_
  refine c_block ?_
  refine c_loopL hF [2, 3, 4, 41, 42, 43, 44, 45, 46, 47, 48, 49, 50, 51, 52, 53, 54, 55, 56, 57, 58, 59, 60, 61, 62, 63, 64, 65, 66, 67, 68, 69, 70, 71, 72, 73, 74, 75]
    (fun k : Nat => [(41, .int .i64 (k : Int))])
    (fun _ => [])
    (fun k _ => k ≤ v.hs.length ∧ ∀ j, j < k → HdOK v j)
    (fun k => v.hs.length - k) (0) ⟨rfl, trivial⟩ (hS) (⟨Nat.zero_le _, fun j h => absurd h (Nat.not_lt_zero _)⟩) ?_
  clear hF hS
  intro k a w H hle hF hS hJ
  replace hg := hg.mono hle
  replace ho := ho.mono hle
  replace hbx := hbx.mono hle
  have hl0 := Le.refl H
  obtain ⟨hk, hJ2⟩ := hJ
  try dsimp only at hF hS hk
  refine c_seq (fun K13 hK13 => ?_)
  refine c_reg ?_
  refine n_q hF hS (q_lss rfl rfl) rfl (fun a hF => ?_)
  refine hK13 _ _ ?_
  refine c_seq (fun K14 hK14 => ?_)
  refine spd hF (s := 42) rfl (fun hc42 hF => ?_) (fun hc42 hF => ?_)
  refine c_true hF rfl ?_
  refine wp_skip ?_
  refine hK14 _ _ ?_
  refine c_seq (fun K15 hK15 => ?_)
  refine c_block ?_
  refine c_seq (fun K16 hK16 => ?_)
  refine c_reg ?_
  have hlt : k < v.hs.length := by omega
  obtain ⟨h, hhd⟩ : ∃ q, q = v.hs[k] := ⟨_, rfl⟩
  have hh? : v.hs[k]? = some h := by rw [hhd]; simp [hlt]
  have hel := hd_el hh?
  refine n_q hF hS (q_move rfl) rfl (fun a hF => ?_)
  refine n_q hF hS (q_indexAddrS Tryd.underlying75 ty39 rfl rfl (by omega) (ho.rdh.some (by simp only [hdE, List.length_map]; omega))) rfl (fun a hF => ?_)
  refine n_q hF hS (q_loadL0 (v := .agg h.c.toArray) ty39 rfl ho.rdh hel (by decide) rfl (Hd.ld_all h)) rfl (fun a hF => ?_)
  refine n_l rfl (fun K17 hK17 => l_alloc hF hS zr39 rfl (fun a w b2 hF hS => hK17 _ _ ?_))
  refine n_q hF hS (q_assign rfl) rfl (fun a hF => ?_)
  refine n_l rfl (fun K18 hK18 => l_store0A ty39 hF hS rfl rfl (i := 0) rfl (by simp [dc_length, Hd.c_len, En.c_len, Fk.c_len, List.length_replicate, List.length_cons, List.length_nil, List.length_append]) (by simp [dc_length, Hd.c_len, En.c_len, Fk.c_len, List.length_replicate, List.length_cons, List.length_nil, List.length_append]) (Hd.c_all1 _) (fun a w hF hS => hK18 _ _ ?_))
  refine hK16 _ _ ?_
  refine c_seq (fun K19 hK19 => ?_)
  refine r_start (fun L => L) [] mo hS (fun w hS => ?_)
  refine r_q (i := 0) rfl rfl hF hS (q_loadG (o := 0) (v := .agg v.c.toArray) ty134 rfl hbx.h (Nat.le_of_ble_eq_true rfl) rfl rfl) rfl (fun a hF => ?_)
  refine r_q (i := 1) rfl rfl hF hS (q_load0 ty39 rfl (i := 0) rfl (by simp [dc_length, Hd.c_len, En.c_len, Fk.c_len, List.length_replicate, List.length_cons, List.length_nil, List.length_append]) rfl) rfl (fun a hF => ?_)
  refine r_one (i := 2) (by kernel_rfl) ?_
  have hsub := hS.sub
  refine r_li rfl rfl (fun K20 hK20 => l_call en75 hF rfl rfl (owns_c v h _ _ hS.fz hg) (fun v20 w hR a hF => ?_))
  obtain ⟨rfl, hc⟩ := hR
  replace hS := hS.call0 hc
  refine hK20 _ _ _ hS (fun _ h => h) ?_
  refine r_q (i := 3) rfl rfl hF hS (q_not rfl) rfl (fun a hF => ?_)
  refine r_q (i := 4) rfl rfl hF hS (q_move rfl) rfl (fun a hF => ?_)
  refine sp hF (s := 50) rfl (fun hc50 hF => ?_) (fun hc50 hF => ?_)
  refine r_no (b := true) (i := 5) rfl rfl hF hS rfl rfl rfl (fun a hF => ?_)
  refine r_no (b := true) (i := 6) rfl rfl hF hS rfl rfl rfl (fun a hF => ?_)
  refine r_no (b := true) (i := 7) rfl rfl hF hS rfl rfl rfl (fun a hF => ?_)
  refine r_nou (i := 8) rfl rfl hF hS rfl rfl (fun a hF => ?_)
  refine r_nou (i := 9) rfl rfl hF hS rfl rfl (fun a hF => ?_)
  refine r_nou (i := 10) rfl rfl hF hS rfl rfl (fun a hF => ?_)
  refine r_nou (i := 11) rfl rfl hF hS rfl rfl (fun a hF => ?_)
  refine r_nou (i := 12) rfl rfl hF hS rfl rfl (fun a hF => ?_)
  refine r_nou (i := 13) rfl rfl hF hS rfl rfl (fun a hF => ?_)
  refine r_nou (i := 14) rfl rfl hF hS rfl rfl (fun a hF => ?_)
  refine r_nou (i := 15) rfl rfl hF hS rfl rfl (fun a hF => ?_)
  refine r_nou (i := 16) rfl rfl hF hS rfl rfl (fun a hF => ?_)
  refine r_nou (i := 17) rfl rfl hF hS rfl rfl (fun a hF => ?_)
  refine r_nou (i := 18) rfl rfl hF hS rfl rfl (fun a hF => ?_)
  refine r_no (b := true) (i := 19) rfl rfl hF hS rfl rfl rfl (fun a hF => ?_)
  refine r_q (i := 20) rfl rfl hF hS (q_pick (b := true) rfl rfl) rfl (fun a hF => ?_)
  refine r_q (i := 21) rfl rfl hF hS (q_move rfl) rfl (fun a hF => ?_)
  refine r_no (b := true) (i := 22) rfl rfl hF hS rfl rfl rfl (fun a hF => ?_)
  refine r_no (b := true) (i := 23) rfl rfl hF hS rfl rfl rfl (fun a hF => ?_)
  refine r_no (b := true) (i := 24) rfl rfl hF hS rfl rfl rfl (fun a hF => ?_)
  refine r_no (b := true) (i := 25) rfl rfl hF hS rfl rfl rfl (fun a hF => ?_)
  refine r_no (b := true) (i := 26) rfl rfl hF hS rfl rfl rfl (fun a hF => ?_)
  refine r_no (b := true) (i := 27) rfl rfl hF hS rfl rfl rfl (fun a hF => ?_)
  refine r_q (i := 28) rfl rfl hF hS (q_pick (b := true) rfl rfl) rfl (fun a hF => ?_)
  refine r_done (by kernel_rfl) ?_
  refine hK19 _ _ ?_
  refine c_true hF rfl ?_
  refine c_seq (fun K21 hK21 => ?_)
  refine c_reg ?_
  refine n_q hF hS (q_assign rfl) rfl (fun a hF => ?_)
  refine hK21 _ _ ?_
  refine c_ret ?_
  repeat (first | refine ret_then ?_ | refine ret_blk ?_)
  refine c_ret' (P := Tryd.prog) (fn := Tryd.f73) rfl hF hS (.tmp rfl .nil) ⟨_, rfl, ?_⟩
  have hbad : ¬ HdOK v k := fun q => by
    have h9 := (q h hh?).1
    rw [tb_true h9] at hc50; cases hc50
  exact ⟨by rw [valid_bad hlt hbad]; rfl, hS.same⟩
  refine r_qg (i := 5) rfl rfl hF hS rfl (q_move rfl) rfl (fun a hF => ?_)
  refine r_qg (i := 6) rfl rfl hF hS rfl (q_gtr rfl rfl) rfl (fun a hF => ?_)
  refine r_qg (i := 7) rfl rfl hF hS rfl (q_move rfl) rfl (fun a hF => ?_)
  refine spd hF (s := 53) rfl (fun hc53 hF => ?_) (fun hc53 hF => ?_)
  refine r_qg (i := 8) rfl rfl hF hS rfl (q_fieldAddr fl39_2 (by decide) rfl) rfl (fun a hF => ?_)
  refine r_qg (i := 9) rfl rfl hF hS rfl (q_load ty3 rfl (i := 0) rfl (by simp [dc_length, Hd.c_len, En.c_len, Fk.c_len, List.length_replicate, List.length_cons, List.length_nil, List.length_append]) rfl (show ldv false 1 h.c 2 = some (.int .i64 h.no) from rfl)) rfl (fun a hF => ?_)
  refine r_qg (i := 10) rfl rfl hF hS rfl (q_fieldAddr fl134_0 (by decide) rfl) rfl (fun a hF => ?_)
  refine r_qg (i := 11) rfl rfl hF hS rfl (q_fieldAddr fl77_4 (by decide) rfl) rfl (fun a hF => ?_)
  refine r_qg (i := 12) rfl rfl hF hS rfl (q_loadG (o := 0 + 0 + 4) (v := .slice v.ha v.hs.length v.hp) ty75 rfl hbx.h (Nat.le_of_ble_eq_true rfl) rfl rfl) rfl (fun a hF => ?_)
  refine r_qg (i := 13) rfl rfl hF hS rfl (q_move rfl) rfl (fun a hF => ?_)
  refine r_qg (i := 14) rfl rfl hF hS rfl (q_subI rfl rfl (by omega)) rfl (fun a hF => ?_)
  refine r_qg (i := 15) rfl rfl hF hS rfl (q_indexAddrS Tryd.underlying75 ty39 rfl rfl (by omega) (ho.rdh.some (by simp only [hdE, List.length_map]; omega))) rfl (fun a hF => ?_)
  refine r_qg (i := 16) rfl rfl hF hS rfl (q_fieldAddrE fl39_2 (by decide) rfl) rfl (fun a hF => ?_)
  refine r_qg (i := 17) rfl rfl hF hS rfl (q_loadL (off := 2) (i := ((k : Int) - 1).toNat) (v := .int .i64 ((v.hs[k - 1]?).getD zHd).no) ty3 rfl ho.rdh (show (hdE v.hs)[((k : Int) - 1).toNat]? = some (v.hs[k - 1]).c by rw [show ((k : Int) - 1).toNat = k - 1 by omega]; simp [hdE, show k - 1 < v.hs.length by omega]) (by decide) rfl (by simp [ldv, Hd.c, show k - 1 < v.hs.length by omega])) rfl (fun a hF => ?_)
  refine r_qg (i := 18) rfl rfl hF hS rfl (q_leq rfl rfl) rfl (fun a hF => ?_)
  refine r_qg (i := 19) rfl rfl hF hS rfl (q_pick (b := true) rfl rfl) rfl (fun a hF => ?_)
  refine r_q (i := 20) rfl rfl hF hS (q_pick (b := false) rfl rfl) rfl (fun a hF => ?_)
  refine r_q (i := 21) rfl rfl hF hS (q_move rfl) rfl (fun a hF => ?_)
  refine spd hF (s := 67) rfl (fun hc67 hF => ?_) (fun hc67 hF => ?_)
  refine r_no (b := true) (i := 22) rfl rfl hF hS rfl rfl rfl (fun a hF => ?_)
  refine r_no (b := true) (i := 23) rfl rfl hF hS rfl rfl rfl (fun a hF => ?_)
  refine r_no (b := true) (i := 24) rfl rfl hF hS rfl rfl rfl (fun a hF => ?_)
  refine r_no (b := true) (i := 25) rfl rfl hF hS rfl rfl rfl (fun a hF => ?_)
  refine r_no (b := true) (i := 26) rfl rfl hF hS rfl rfl rfl (fun a hF => ?_)
  refine r_no (b := true) (i := 27) rfl rfl hF hS rfl rfl rfl (fun a hF => ?_)
  refine r_q (i := 28) rfl rfl hF hS (q_pick (b := true) rfl rfl) rfl (fun a hF => ?_)
  refine r_done (by kernel_rfl) ?_
  refine hK19 _ _ ?_
  refine c_true hF rfl ?_
  refine c_seq (fun K22 hK22 => ?_)
  refine c_reg ?_
  refine n_q hF hS (q_assign rfl) rfl (fun a hF => ?_)
  refine hK22 _ _ ?_
  refine c_ret ?_
  repeat (first | refine ret_then ?_ | refine ret_blk ?_)
  refine c_ret' (P := Tryd.prog) (fn := Tryd.f73) rfl hF hS (.tmp rfl .nil) ⟨_, rfl, ?_⟩
  have hbad : ¬ HdOK v k := fun q => by
    have h9 := (q h hh?).2.1 (by omega)
    omega
  exact ⟨by rw [valid_bad hlt hbad]; rfl, hS.same⟩
  refine r_qg (i := 22) rfl rfl hF hS rfl (q_load0 ty39 rfl (i := 0) rfl (by simp [dc_length, Hd.c_len, En.c_len, Fk.c_len, List.length_replicate, List.length_cons, List.length_nil, List.length_append]) rfl) rfl (fun a hF => ?_)
  refine r_qg (i := 23) rfl rfl hF hS rfl (q_fieldAddr fl134_0 (by decide) rfl) rfl (fun a hF => ?_)
  refine r_qg (i := 24) rfl rfl hF hS rfl (q_fieldAddr fl77_3 (by decide) rfl) rfl (fun a hF => ?_)
  refine r_qg (i := 25) rfl rfl hF hS rfl (q_loadG (o := 0 + 0 + 3) (v := .slice v.da v.ds.length v.dp) ty45 rfl hbx.h (Nat.le_of_ble_eq_true rfl) rfl rfl) rfl (fun a hF => ?_)
  refine r_one (i := 26) (by kernel_rfl) ?_
  have hsub := hS.sub
  refine r_lig rfl rfl hF rfl (fun K23 hK23 => l_call en77 hF rfl rfl (fits_c h v.ds v.da v.dp ho.dlen _ _ hS.fz hg ho.rdd) (fun v23 w hR a hF => ?_))
  obtain ⟨rfl, hc⟩ := hR
  replace hS := hS.call0 hc
  refine hK23 _ _ _ hS (fun _ h => h) ?_
  refine r_qg (i := 27) rfl rfl hF hS rfl (q_not rfl) rfl (fun a hF => ?_)
  refine r_q (i := 28) rfl rfl hF hS (q_pick (b := false) rfl rfl) rfl (fun a hF => ?_)
  refine r_done (by kernel_rfl) ?_
  refine hK19 _ _ ?_
  refine sp hF (s := 74) rfl (fun hc74 hF => ?_) (fun hc74 hF => ?_)
  refine c_true hF rfl ?_
  refine c_seq (fun K24 hK24 => ?_)
  refine c_reg ?_
  refine n_q hF hS (q_assign rfl) rfl (fun a hF => ?_)
  refine hK24 _ _ ?_
  refine c_ret ?_
  repeat (first | refine ret_then ?_ | refine ret_blk ?_)
  refine c_ret' (P := Tryd.prog) (fn := Tryd.f73) rfl hF hS (.tmp rfl .nil) ⟨_, rfl, ?_⟩
  have hbad : ¬ HdOK v k := fun q => by
    have h9 := (q h hh?).2.2
    rw [tb_true h9] at hc74; cases hc74
  exact ⟨by rw [valid_bad hlt hbad]; rfl, hS.same⟩
  refine c_false hF rfl ?_
  refine wp_skip ?_
  refine hK15 _ _ ?_
  refine c_reg ?_
  refine n_q hF hS (q_addI rfl rfl (by omega)) rfl (fun a hF => ?_)
  refine n_q hF hS (q_move rfl) rfl (fun a hF => ?_)
  have hok : HdOK v k := hdok_yes hh? (tb_iff.1 (by simpa using hc50)) (fun h0 => by omega) (tb_iff.1 (by simpa using hc74))
  exact ⟨k + 1, _, (by show v.hs.length - (k + 1) < v.hs.length - k; omega), hl0, hF.back ⟨rfl, trivial⟩ rfl (by repeat first | exact Ext.refl _ _ | refine Ext.rem' rfl ?_ | refine Ext.push rfl ?_), hS.lose (.cons _ (.refl _)), ⟨by show k + 1 ≤ _; omega, fun j hj => by rcases Nat.lt_succ_iff_lt_or_eq.1 hj with h | rfl; exact hJ2 j h; exact hok⟩⟩
  refine r_no (b := false) (i := 8) rfl rfl hF hS rfl rfl rfl (fun a hF => ?_)
  refine r_no (b := false) (i := 9) rfl rfl hF hS rfl rfl rfl (fun a hF => ?_)
  refine r_no (b := false) (i := 10) rfl rfl hF hS rfl rfl rfl (fun a hF => ?_)
  refine r_no (b := false) (i := 11) rfl rfl hF hS rfl rfl rfl (fun a hF => ?_)
  refine r_no (b := false) (i := 12) rfl rfl hF hS rfl rfl rfl (fun a hF => ?_)
  refine r_no (b := false) (i := 13) rfl rfl hF hS rfl rfl rfl (fun a hF => ?_)
  refine r_no (b := false) (i := 14) rfl rfl hF hS rfl rfl rfl (fun a hF => ?_)
  refine r_no (b := false) (i := 15) rfl rfl hF hS rfl rfl rfl (fun a hF => ?_)
  refine r_no (b := false) (i := 16) rfl rfl hF hS rfl rfl rfl (fun a hF => ?_)
  refine r_no (b := false) (i := 17) rfl rfl hF hS rfl rfl rfl (fun a hF => ?_)
  refine r_no (b := false) (i := 18) rfl rfl hF hS rfl rfl rfl (fun a hF => ?_)
  refine r_qg (i := 19) rfl rfl hF hS rfl (q_pick (b := false) rfl rfl) rfl (fun a hF => ?_)
  refine r_q (i := 20) rfl rfl hF hS (q_pick (b := false) rfl rfl) rfl (fun a hF => ?_)
  refine r_q (i := 21) rfl rfl hF hS (q_move rfl) rfl (fun a hF => ?_)
  refine r_qg (i := 22) rfl rfl hF hS rfl (q_load0 ty39 rfl (i := 0) rfl (by simp [dc_length, Hd.c_len, En.c_len, Fk.c_len, List.length_replicate, List.length_cons, List.length_nil, List.length_append]) rfl) rfl (fun a hF => ?_)
  refine r_qg (i := 23) rfl rfl hF hS rfl (q_fieldAddr fl134_0 (by decide) rfl) rfl (fun a hF => ?_)
  refine r_qg (i := 24) rfl rfl hF hS rfl (q_fieldAddr fl77_3 (by decide) rfl) rfl (fun a hF => ?_)
  refine r_qg (i := 25) rfl rfl hF hS rfl (q_loadG (o := 0 + 0 + 3) (v := .slice v.da v.ds.length v.dp) ty45 rfl hbx.h (Nat.le_of_ble_eq_true rfl) rfl rfl) rfl (fun a hF => ?_)
  refine r_one (i := 26) (by kernel_rfl) ?_
  have hsub := hS.sub
  refine r_lig rfl rfl hF rfl (fun K25 hK25 => l_call en77 hF rfl rfl (fits_c h v.ds v.da v.dp ho.dlen _ _ hS.fz hg ho.rdd) (fun v25 w hR a hF => ?_))
  obtain ⟨rfl, hc⟩ := hR
  replace hS := hS.call0 hc
  refine hK25 _ _ _ hS (fun _ h => h) ?_
  refine r_qg (i := 27) rfl rfl hF hS rfl (q_not rfl) rfl (fun a hF => ?_)
  refine r_q (i := 28) rfl rfl hF hS (q_pick (b := false) rfl rfl) rfl (fun a hF => ?_)
  refine r_done (by kernel_rfl) ?_
  refine hK19 _ _ ?_
  refine sp hF (s := 74) rfl (fun hc74 hF => ?_) (fun hc74 hF => ?_)
  refine c_true hF rfl ?_
  refine c_seq (fun K26 hK26 => ?_)
  refine c_reg ?_
  refine n_q hF hS (q_assign rfl) rfl (fun a hF => ?_)
  refine hK26 _ _ ?_
  refine c_ret ?_
  repeat (first | refine ret_then ?_ | refine ret_blk ?_)
  refine c_ret' (P := Tryd.prog) (fn := Tryd.f73) rfl hF hS (.tmp rfl .nil) ⟨_, rfl, ?_⟩
  have hbad : ¬ HdOK v k := fun q => by
    have h9 := (q h hh?).2.2
    rw [tb_true h9] at hc74; cases hc74
  exact ⟨by rw [valid_bad hlt hbad]; rfl, hS.same⟩
  refine c_false hF rfl ?_
  refine wp_skip ?_
  refine hK15 _ _ ?_
  refine c_reg ?_
  refine n_q hF hS (q_addI rfl rfl (by omega)) rfl (fun a hF => ?_)
  refine n_q hF hS (q_move rfl) rfl (fun a hF => ?_)
  have hok : HdOK v k := hdok_yes hh? (tb_iff.1 (by simpa using hc50)) (fun h0 => by omega) (tb_iff.1 (by simpa using hc74))
  exact ⟨k + 1, _, (by show v.hs.length - (k + 1) < v.hs.length - k; omega), hl0, hF.back ⟨rfl, trivial⟩ rfl (by repeat first | exact Ext.refl _ _ | refine Ext.rem' rfl ?_ | refine Ext.push rfl ?_), hS.lose (.cons _ (.refl _)), ⟨by show k + 1 ≤ _; omega, fun j hj => by rcases Nat.lt_succ_iff_lt_or_eq.1 hj with h | rfl; exact hJ2 j h; exact hok⟩⟩
  refine c_false hF rfl ?_
  refine c_exit ?_
  refine hK11 _ _ ?_
  refine c_seq (fun K27 hK27 => ?_)
  refine c_reg ?_
  refine n_q hF hS (q_assign rfl) rfl (fun a hF => ?_)
  refine hK27 _ _ ?_
  refine c_ret ?_
  repeat (first | refine ret_then ?_ | refine ret_blk ?_)
  refine c_ret' (P := Tryd.prog) (fn := Tryd.f73) rfl hF hS (.tmp rfl .nil) ⟨_, rfl, ?_⟩
  exact ⟨by rw [tb_true (show Valid v from ⟨by omega, by omega, by omega, fun j hj => hJ2 j (by omega)⟩)]; rfl, hS.same⟩

theorem accuse_c (v : Vw) (hs : List Hd) (ah : Option Addr) (ch : Nat) (hn2 : hs.length ≤ 1000000) (w : World) (H : Froz) (hz : Fz H w) (hg : Gl 0 1 H) (ho : VwOK H v) (hrh : RdL H ah 37 (hdE hs)) :
    CallsR Tryd.prog 74 [.agg v.c.toArray, .slice ah hs.length ch] w fun r w' => r = .tuple #[.agg ((accO v hs).getD zFk).c.toArray, .bool (accO v hs).isSome] ∧ St ⟨w, H, []⟩ H [] w' := by
  refine calls_start Tryd.func74 rfl Tryd.ntmps74 rfl (fun a hF => ?_)
  have hS := St.start w H hz
  refine c_seq (fun K1 hK1 => ?_)
  refine c_reg ?_
  refine n_l rfl (fun K2 hK2 => l_boxA hF hS rfl rfl (fun a w b1 hF hS => hK2 _ _ ?_))
  refine n_l rfl (fun K3 hK3 => l_alloc hF hS zr82 rfl (fun a w b2 hF hS => hK3 _ _ ?_))
  refine n_q hF hS (q_assign rfl) rfl (fun a hF => ?_)
  refine hK1 _ _ ?_
  refine c_seq (fun K4 hK4 => ?_)
  refine c_reg ?_
  refine n_q hF hS (q_move rfl) rfl (fun a hF => ?_)
  refine n_q hF hS (q_fieldAddr fl134_0 (by decide) rfl) rfl (fun a hF => ?_)
  refine n_q hF hS (q_fieldAddr fl77_3 (by decide) rfl) rfl (fun a hF => ?_)
  refine n_q hF hS (q_load ty45 rfl (i := 1) rfl rfl rfl (show ldv false 1 v.c 3 = some (.slice v.da v.ds.length v.dp) from rfl)) rfl (fun a hF => ?_)
  refine n_l rfl (fun K5 hK5 => l_call en106 hF rfl rfl (odd_c hs ah ch hn2 v.ds v.da v.dp ho.dlen _ _ hS.fz hg ho.rdd hrh) (fun v5 w hR a hF => ?_))
  obtain ⟨rfl, hc⟩ := hR
  replace hS := hS.call0 hc
  refine hK5 _ _ ?_
  refine n_q hF hS (q_move rfl) rfl (fun a hF => ?_)
  refine n_q hF hS (q_extract (i := 0) rfl rfl) rfl (fun a hF => ?_)
  refine n_q hF hS (q_extract (i := 1) rfl rfl) rfl (fun a hF => ?_)
  refine n_l rfl (fun K6 hK6 => l_alloc hF hS zr39 rfl (fun a w b3 hF hS => hK6 _ _ ?_))
  refine n_l rfl (fun K7 hK7 => l_store0A ty39 hF hS rfl rfl (i := 0) rfl (by simp [dc_length, Hd.c_len, En.c_len, Fk.c_len, List.length_replicate, List.length_cons, List.length_nil, List.length_append]) (by simp [dc_length, Hd.c_len, En.c_len, Fk.c_len, List.length_replicate, List.length_cons, List.length_nil, List.length_append]) (Hd.c_all1 _) (fun a w hF hS => hK7 _ _ ?_))
  refine n_q hF hS (q_assign rfl) rfl (fun a hF => ?_)
  refine hK4 _ _ ?_
  refine c_seq (fun K8 hK8 => ?_)
  refine c_seq (fun K9 hK9 => ?_)
  refine c_reg ?_
  refine n_q hF hS (q_move rfl) rfl (fun a hF => ?_)
  refine n_q hF hS (q_not rfl) rfl (fun a hF => ?_)
  refine hK9 _ _ ?_
  refine sp hF (s := 16) rfl (fun hc16 hF => ?_) (fun hc16 hF => ?_)
  refine c_true hF rfl ?_
  refine c_seq (fun K10 hK10 => ?_)
  refine c_reg ?_
  refine n_q hF hS (q_load0 ty82 rfl (i := 1) rfl (by simp [dc_length, Hd.c_len, En.c_len, Fk.c_len, List.length_replicate, List.length_cons, List.length_nil, List.length_append]) rfl) rfl (fun a hF => ?_)
  refine n_l rfl (fun K11 hK11 => l_store0A ty82 hF hS rfl rfl (i := 1) rfl (by simp [dc_length, Hd.c_len, En.c_len, Fk.c_len, List.length_replicate, List.length_cons, List.length_nil, List.length_append]) (by simp [dc_length, Hd.c_len, En.c_len, Fk.c_len, List.length_replicate, List.length_cons, List.length_nil, List.length_append]) (by first | exact dc_all1 _ | rfl | simp [all1]) (fun a w hF hS => hK11 _ _ ?_))
  refine n_q hF hS (q_assign rfl) rfl (fun a hF => ?_)
  refine hK10 _ _ ?_
  refine c_ret ?_
  repeat (first | refine ret_then ?_ | refine ret_blk ?_)
  refine c_ret' (P := Tryd.prog) (fn := Tryd.f74) rfl hF hS (.cell0 rfl ty82 (i := 1) rfl (by simp [dc_length, Hd.c_len, En.c_len, Fk.c_len, List.length_replicate, List.length_cons, List.length_nil, List.length_append]) rfl (.tmp rfl .nil)) ⟨_, rfl, ?_⟩
  have h9 : accO v hs = none := accO_none (by simpa using hc16)
  exact ⟨by rw [h9]; rfl, hS.same⟩
  refine c_false hF rfl ?_
  refine wp_skip ?_
  refine hK8 _ _ ?_
  refine c_seq (fun K12 hK12 => ?_)
  refine r_start (fun L => L) [7, 8] mo hS (fun w hS => ?_)
  refine r_q (i := 0) rfl rfl hF hS (q_load0 ty39 rfl (i := 0) rfl (by simp [dc_length, Hd.c_len, En.c_len, Fk.c_len, List.length_replicate, List.length_cons, List.length_nil, List.length_append]) rfl) rfl (fun a hF => ?_)
  refine r_q (i := 1) rfl rfl hF hS (q_load0 ty134 rfl (i := 2) rfl rfl rfl) rfl (fun a hF => ?_)
  refine r_q (i := 3) rfl rfl hF hS (q_fieldAddr fl134_0 (by decide) rfl) rfl (fun a hF => ?_)
  refine r_q (i := 4) rfl rfl hF hS (q_fieldAddr fl77_3 (by decide) rfl) rfl (fun a hF => ?_)
  refine r_q (i := 5) rfl rfl hF hS (q_load ty45 rfl (i := 2) rfl rfl rfl (show ldv false 1 v.c 3 = some (.slice v.da v.ds.length v.dp) from rfl)) rfl (fun a hF => ?_)
  refine r_one (i := 2) (by kernel_rfl) ?_
  have hsub := hS.sub
  refine r_li rfl rfl (fun K13 hK13 => l_call en105 hF rfl rfl (last_c v _ _ hS.fz ho) (fun v13 w hR a hF => ?_))
  obtain ⟨rfl, hc⟩ := hR
  replace hS := hS.call0 hc
  refine hK13 _ _ _ hS (fun _ h => h) ?_
  refine r_q (i := 6) rfl rfl hF hS (q_build (P := Tryd.prog) (T := 82) (cs := Fk.c ⟨(oddO hs v.ds).getD zHd, lastH v.hs, v.da, v.dp, v.ds⟩) zr82 pl82 rfl (bld_fk _ _ _ rfl rfl)) rfl (fun a hF => ?_)
  refine r_one (i := 7) (by kernel_rfl) ?_
  refine r_lL rfl rfl rfl (fun K14 hK14 => l_store0A ty82 hF hS rfl rfl (i := 1) rfl (by simp [dc_length, Hd.c_len, En.c_len, Fk.c_len, List.length_replicate, List.length_cons, List.length_nil, List.length_append]) (by simp [dc_length, Hd.c_len, En.c_len, Fk.c_len, List.length_replicate, List.length_cons, List.length_nil, List.length_append]) (Fk.c_all1 ⟨_, _, v.da, v.dp, v.ds⟩) (fun a w hF hS => hK14 _ _ ?_))
  refine r_qL (i := 8) rfl rfl hF (q_assign rfl) rfl (fun a hF => ?_)
  refine r_done (by kernel_rfl) ?_
  refine hK12 _ _ ?_
  refine c_ret ?_
  repeat (first | refine ret_then ?_ | refine ret_blk ?_)
  refine c_ret' (P := Tryd.prog) (fn := Tryd.f74) rfl hF hS (.cell0 rfl ty82 (i := 1) rfl (by simp [dc_length, Hd.c_len, En.c_len, Fk.c_len, List.length_replicate, List.length_cons, List.length_nil, List.length_append]) rfl (.tmp rfl .nil)) ⟨_, rfl, ?_⟩
  have h9 := accO_some (v := v) (hs := hs) (by simpa using hc16)
  exact ⟨by rw [h9]; rfl, hS.same⟩

theorem VNew_c (st fo pub : Int) (w : World) (H : Froz) (hz : Fz H w) :
    CallsR Tryd.prog 38 [.int .i64 st, .int .i64 fo, .int .i64 pub] w fun r w' => r = .agg (Vw.c ⟨st, fo, pub, none, 0, [], none, 0, []⟩).toArray ∧ St ⟨w, H, []⟩ H [] w' := by
  refine calls_start Tryd.func38 rfl Tryd.ntmps38 rfl (fun a hF => ?_)
  have hS := St.start w H hz
  refine c_seq (fun K1 hK1 => ?_)
  refine c_reg ?_
  refine n_l rfl (fun K2 hK2 => l_alloc hF hS zr77 rfl (fun a w b1 hF hS => hK2 _ _ ?_))
  refine hK1 _ _ ?_
  refine c_seq (fun K3 hK3 => ?_)
  refine c_reg ?_
  refine n_q hF hS (q_move rfl) rfl (fun a hF => ?_)
  refine n_q hF hS (q_move rfl) rfl (fun a hF => ?_)
  refine n_q hF hS (q_move rfl) rfl (fun a hF => ?_)
  refine n_q hF hS (q_build (P := Tryd.prog) (T := 77) (cs := [_, _, _, _, _]) zr77 pl77 rfl (by first | rfl | simp [bld, spl, dc_length, Hd.c_len, En.c_len, Fk.c_len, List.length_replicate, List.length_cons, List.length_nil, List.length_append])) rfl (fun a hF => ?_)
  refine n_l rfl (fun K4 hK4 => l_store0A ty77 hF hS rfl rfl (i := 0) rfl rfl rfl rfl (fun a w hF hS => hK4 _ _ ?_))
  refine hK3 _ _ ?_
  refine c_ret ?_
  repeat (first | refine ret_then ?_ | refine ret_blk ?_)
  refine c_ret' (P := Tryd.prog) (fn := Tryd.f38) rfl hF hS (.cell0 rfl ty77 (i := 0) rfl rfl rfl .nil) ⟨_, rfl, ?_⟩
  exact ⟨rfl, hS.same⟩

theorem VCheck_c (v : Vw) (w : World) (H : Froz) (hz : Fz H w) (hg : Gl 0 1 H) (ho : VwOK H v) :
    CallsR Tryd.prog 33 [.agg v.c.toArray] w fun r w' => r = .int .i64 (if tb (Valid v) = true then 0 else 320) ∧ St ⟨w, H, []⟩ H [] w' := by
  refine calls_start Tryd.func33 rfl Tryd.ntmps33 rfl (fun a hF => ?_)
  have hS := St.start w H hz
  refine c_seq (fun K1 hK1 => ?_)
  refine c_reg ?_
  refine n_l rfl (fun K2 hK2 => l_boxA hF hS rfl rfl (fun a w b1 hF hS => hK2 _ _ ?_))
  refine n_q hF hS (q_assign rfl) rfl (fun a hF => ?_)
  refine hK1 _ _ ?_
  refine c_seq (fun K3 hK3 => ?_)
  refine c_seq (fun K4 hK4 => ?_)
  refine c_reg ?_
  refine n_q hF hS (q_load0 ty77 rfl (i := 0) rfl rfl rfl) rfl (fun a hF => ?_)
  refine n_q hF hS (q_build (P := Tryd.prog) (T := 134) (cs := [_, _, _, _, _]) zr134 pl134 rfl (by first | rfl | simp [bld, spl, dc_length, Hd.c_len, En.c_len, Fk.c_len, List.length_replicate, List.length_cons, List.length_nil, List.length_append])) rfl (fun a hF => ?_)
  refine n_l rfl (fun K5 hK5 => l_call en73 hF rfl rfl (valid_v_c v _ _ hS.fz hg ho) (fun v5 w hR a hF => ?_))
  obtain ⟨rfl, hc⟩ := hR
  replace hS := hS.call0 hc
  refine hK5 _ _ ?_
  refine n_q hF hS (q_not rfl) rfl (fun a hF => ?_)
  refine hK4 _ _ ?_
  refine sp hF (s := 6) rfl (fun hc6 hF => ?_) (fun hc6 hF => ?_)
  refine c_true hF rfl ?_
  refine c_seq (fun K6 hK6 => ?_)
  refine c_reg ?_
  refine n_q hF hS (q_assign rfl) rfl (fun a hF => ?_)
  refine hK6 _ _ ?_
  refine c_ret ?_
  repeat (first | refine ret_then ?_ | refine ret_blk ?_)
  refine c_ret' (P := Tryd.prog) (fn := Tryd.f33) rfl hF hS (.tmp rfl .nil) ⟨_, rfl, ?_⟩
  have h9 : tb (Valid v) = false := by simpa using hc6
  exact ⟨by rw [h9]; rfl, hS.same⟩
  refine c_false hF rfl ?_
  refine wp_skip ?_
  refine hK3 _ _ ?_
  refine c_seq (fun K7 hK7 => ?_)
  refine c_reg ?_
  refine n_q hF hS (q_assign rfl) rfl (fun a hF => ?_)
  refine hK7 _ _ ?_
  refine c_ret ?_
  repeat (first | refine ret_then ?_ | refine ret_blk ?_)
  refine c_ret' (P := Tryd.prog) (fn := Tryd.f33) rfl hF hS (.tmp rfl .nil) ⟨_, rfl, ?_⟩
  have h9 : tb (Valid v) = true := by simpa using hc6
  exact ⟨by rw [h9]; rfl, hS.same⟩
end Go.Proofs.YtneokajhmonpaaaDoor

namespace Go.Proofs.YtneokajhmonpaaaDoor
open Go Go.RowKit Go.W
set_option maxRecDepth 10000
open Fx

set_option maxHeartbeats 1600000 in
theorem Prove_c (pub : Int) (f : Fk) (w : World) (H : Froz) (hz : Fz H w) (hg : Gl 0 1 H) (ho : FkOK H f) :
    CallsR Tryd.prog 39 [.int .i64 pub, .agg f.c.toArray] w fun r w' => r = .int .i64 (if tb (Proves pub f.A f.B f.ds) = true then 0 else 321) ∧ St ⟨w, H, []⟩ H [] w' := by
  refine calls_start Tryd.func39 rfl Tryd.ntmps39 rfl (fun a hF => ?_)
  have hS := St.start w H hz
  have hdl := ho.dlen
  refine c_seq (fun K1 hK1 => ?_)
  refine c_reg ?_
  refine n_l rfl (fun K2 hK2 => l_boxA hF hS rfl rfl (fun a w b1 hF hS => hK2 _ _ ?_))
  refine n_q hF hS (q_assign rfl) rfl (fun a hF => ?_)
  refine hK1 _ _ ?_
  obtain ⟨H_hbx, hH_hbx, hle_hbx, hS_hbx⟩ := hS.freeze' (i := 0) rfl
  replace hS := hS_hbx
  replace hg := hg.mono hle_hbx
  replace ho := ho.mono hle_hbx
  have hbx : HR H_hbx b1 f.c := by rw [hH_hbx]; exact frz_hr
  refine c_join (γ := Nat × Nat) hF hS [5, 6, 7, 8, 9, 10] (fun g => [(5, .pointer (some ⟨g.1, 0, none⟩)), (6, .pointer (some ⟨g.2, 0, none⟩))]) (fun g => [⟨g.1, f.A.c, 39⟩, ⟨g.2, f.B.c, 39⟩]) (fun _ _ => True) ?_ ?_
  intro g a w H hle hF hS hJ
  replace hg := hg.mono hle
  replace ho := ho.mono hle
  replace hbx := hbx.mono hle
  obtain ⟨b5, b6⟩ := g
  try dsimp only at hF hS
  refine c_seq (fun K4 hK4 => ?_)
  refine c_seq (fun K5 hK5 => ?_)
  refine c_reg ?_
  refine n_q hF hS (q_move rfl) rfl (fun a hF => ?_)
  refine n_q hF hS (q_load0 ty39 rfl (i := 0) rfl (by simp [dc_length, Hd.c_len, En.c_len, Fk.c_len, List.length_replicate, List.length_cons, List.length_nil, List.length_append]) rfl) rfl (fun a hF => ?_)
  refine n_l rfl (fun K6 hK6 => l_call en17 hF rfl rfl (SV_c pub f.A _ _ hS.fz hg) (fun v6 w hR a hF => ?_))
  obtain ⟨rfl, hc⟩ := hR
  replace hS := hS.call0 hc
  refine hK6 _ _ ?_
  refine n_q hF hS (q_not rfl) rfl (fun a hF => ?_)
  refine n_q hF hS (q_move rfl) rfl (fun a hF => ?_)
  refine sp hF (s := 15) rfl (fun hc15 hF => ?_) (fun hc15 hF => ?_)
  refine n_no hF (b := true) rfl rfl rfl (fun a hF => ?_)
  refine n_no hF (b := true) rfl rfl rfl (fun a hF => ?_)
  refine n_no hF (b := true) rfl rfl rfl (fun a hF => ?_)
  refine n_no hF (b := true) rfl rfl rfl (fun a hF => ?_)
  refine n_q hF hS (q_pick (b := true) rfl rfl) rfl (fun a hF => ?_)
  refine n_q hF hS (q_move rfl) rfl (fun a hF => ?_)
  refine n_no hF (b := true) rfl rfl rfl (fun a hF => ?_)
  refine n_no hF (b := true) rfl rfl rfl (fun a hF => ?_)
  refine n_no hF (b := true) rfl rfl rfl (fun a hF => ?_)
  refine n_no hF (b := true) rfl rfl rfl (fun a hF => ?_)
  refine n_no hF (b := true) rfl rfl rfl (fun a hF => ?_)
  refine n_q hF hS (q_pick (b := true) rfl rfl) rfl (fun a hF => ?_)
  refine n_q hF hS (q_move rfl) rfl (fun a hF => ?_)
  refine n_no hF (b := true) rfl rfl rfl (fun a hF => ?_)
  refine n_no hF (b := true) rfl rfl rfl (fun a hF => ?_)
  refine n_no hF (b := true) rfl rfl rfl (fun a hF => ?_)
  refine n_no hF (b := true) rfl rfl rfl (fun a hF => ?_)
  refine n_no hF (b := true) rfl rfl rfl (fun a hF => ?_)
  refine n_q hF hS (q_pick (b := true) rfl rfl) rfl (fun a hF => ?_)
  refine n_q hF hS (q_move rfl) rfl (fun a hF => ?_)
  refine n_no hF (b := true) rfl rfl rfl (fun a hF => ?_)
  refine n_no hF (b := true) rfl rfl rfl (fun a hF => ?_)
  refine n_no hF (b := true) rfl rfl rfl (fun a hF => ?_)
  refine n_no hF (b := true) rfl rfl rfl (fun a hF => ?_)
  refine n_no hF (b := true) rfl rfl rfl (fun a hF => ?_)
  refine n_q hF hS (q_pick (b := true) rfl rfl) rfl (fun a hF => ?_)
  refine n_q hF hS (q_move rfl) rfl (fun a hF => ?_)
  refine n_no hF (b := true) rfl rfl rfl (fun a hF => ?_)
  refine n_no hF (b := true) rfl rfl rfl (fun a hF => ?_)
  refine n_no hF (b := true) rfl rfl rfl (fun a hF => ?_)
  refine n_no hF (b := true) rfl rfl rfl (fun a hF => ?_)
  refine n_no hF (b := true) rfl rfl rfl (fun a hF => ?_)
  refine n_no hF (b := true) rfl rfl rfl (fun a hF => ?_)
  refine n_q hF hS (q_pick (b := true) rfl rfl) rfl (fun a hF => ?_)
  refine n_q hF hS (q_move rfl) rfl (fun a hF => ?_)
  refine n_no hF (b := true) rfl rfl rfl (fun a hF => ?_)
  refine n_no hF (b := true) rfl rfl rfl (fun a hF => ?_)
  refine n_no hF (b := true) rfl rfl rfl (fun a hF => ?_)
  refine n_no hF (b := true) rfl rfl rfl (fun a hF => ?_)
  refine n_no hF (b := true) rfl rfl rfl (fun a hF => ?_)
  refine n_q hF hS (q_pick (b := true) rfl rfl) rfl (fun a hF => ?_)
  refine n_q hF hS (q_move rfl) rfl (fun a hF => ?_)
  refine n_no hF (b := true) rfl rfl rfl (fun a hF => ?_)
  refine n_no hF (b := true) rfl rfl rfl (fun a hF => ?_)
  refine n_no hF (b := true) rfl rfl rfl (fun a hF => ?_)
  refine n_no hF (b := true) rfl rfl rfl (fun a hF => ?_)
  refine n_q hF hS (q_pick (b := true) rfl rfl) rfl (fun a hF => ?_)
  refine hK5 _ _ ?_
  refine c_true hF rfl ?_
  refine c_seq (fun K7 hK7 => ?_)
  refine c_reg ?_
  refine n_q hF hS (q_assign rfl) rfl (fun a hF => ?_)
  refine hK7 _ _ ?_
  refine c_ret ?_
  repeat (first | refine ret_then ?_ | refine ret_blk ?_)
  refine c_ret' (P := Tryd.prog) (fn := Tryd.f39) rfl hF hS (.tmp rfl .nil) ⟨_, rfl, ?_⟩
  have h9 : tb (Proves pub f.A f.B f.ds) = false := tb_false (fun q => by obtain ⟨q1, q2, q3, q4, q5, q6, q7, q8⟩ := q; rw [q1] at hc15; cases hc15)
  exact ⟨by rw [h9]; rfl, hS.same⟩
  refine n_yes hF rfl ?_
  refine n_q hF hS (q_move rfl) rfl (fun a hF => ?_)
  refine n_yes hF rfl ?_
  refine n_q hF hS (q_load0 ty39 rfl (i := 1) rfl (by simp [dc_length, Hd.c_len, En.c_len, Fk.c_len, List.length_replicate, List.length_cons, List.length_nil, List.length_append]) rfl) rfl (fun a hF => ?_)
  refine n_yes hF rfl ?_
  refine n_l rfl (fun K8 hK8 => l_call en17 hF rfl rfl (SV_c pub f.B _ _ hS.fz hg) (fun v8 w hR a hF => ?_))
  obtain ⟨rfl, hc⟩ := hR
  replace hS := hS.call0 hc
  refine hK8 _ _ ?_
  refine n_yes hF rfl ?_
  refine n_q hF hS (q_not rfl) rfl (fun a hF => ?_)
  refine n_q hF hS (q_pick (b := false) rfl rfl) rfl (fun a hF => ?_)
  refine n_q hF hS (q_move rfl) rfl (fun a hF => ?_)
  refine sp hF (s := 21) rfl (fun hc21 hF => ?_) (fun hc21 hF => ?_)
  refine n_no hF (b := true) rfl rfl rfl (fun a hF => ?_)
  refine n_no hF (b := true) rfl rfl rfl (fun a hF => ?_)
  refine n_no hF (b := true) rfl rfl rfl (fun a hF => ?_)
  refine n_no hF (b := true) rfl rfl rfl (fun a hF => ?_)
  refine n_no hF (b := true) rfl rfl rfl (fun a hF => ?_)
  refine n_q hF hS (q_pick (b := true) rfl rfl) rfl (fun a hF => ?_)
  refine n_q hF hS (q_move rfl) rfl (fun a hF => ?_)
  refine n_no hF (b := true) rfl rfl rfl (fun a hF => ?_)
  refine n_no hF (b := true) rfl rfl rfl (fun a hF => ?_)
  refine n_no hF (b := true) rfl rfl rfl (fun a hF => ?_)
  refine n_no hF (b := true) rfl rfl rfl (fun a hF => ?_)
  refine n_no hF (b := true) rfl rfl rfl (fun a hF => ?_)
  refine n_q hF hS (q_pick (b := true) rfl rfl) rfl (fun a hF => ?_)
  refine n_q hF hS (q_move rfl) rfl (fun a hF => ?_)
  refine n_no hF (b := true) rfl rfl rfl (fun a hF => ?_)
  refine n_no hF (b := true) rfl rfl rfl (fun a hF => ?_)
  refine n_no hF (b := true) rfl rfl rfl (fun a hF => ?_)
  refine n_no hF (b := true) rfl rfl rfl (fun a hF => ?_)
  refine n_no hF (b := true) rfl rfl rfl (fun a hF => ?_)
  refine n_q hF hS (q_pick (b := true) rfl rfl) rfl (fun a hF => ?_)
  refine n_q hF hS (q_move rfl) rfl (fun a hF => ?_)
  refine n_no hF (b := true) rfl rfl rfl (fun a hF => ?_)
  refine n_no hF (b := true) rfl rfl rfl (fun a hF => ?_)
  refine n_no hF (b := true) rfl rfl rfl (fun a hF => ?_)
  refine n_no hF (b := true) rfl rfl rfl (fun a hF => ?_)
  refine n_no hF (b := true) rfl rfl rfl (fun a hF => ?_)
  refine n_no hF (b := true) rfl rfl rfl (fun a hF => ?_)
  refine n_q hF hS (q_pick (b := true) rfl rfl) rfl (fun a hF => ?_)
  refine n_q hF hS (q_move rfl) rfl (fun a hF => ?_)
  refine n_no hF (b := true) rfl rfl rfl (fun a hF => ?_)
  refine n_no hF (b := true) rfl rfl rfl (fun a hF => ?_)
  refine n_no hF (b := true) rfl rfl rfl (fun a hF => ?_)
  refine n_no hF (b := true) rfl rfl rfl (fun a hF => ?_)
  refine n_no hF (b := true) rfl rfl rfl (fun a hF => ?_)
  refine n_q hF hS (q_pick (b := true) rfl rfl) rfl (fun a hF => ?_)
  refine n_q hF hS (q_move rfl) rfl (fun a hF => ?_)
  refine n_no hF (b := true) rfl rfl rfl (fun a hF => ?_)
  refine n_no hF (b := true) rfl rfl rfl (fun a hF => ?_)
  refine n_no hF (b := true) rfl rfl rfl (fun a hF => ?_)
  refine n_no hF (b := true) rfl rfl rfl (fun a hF => ?_)
  refine n_q hF hS (q_pick (b := true) rfl rfl) rfl (fun a hF => ?_)
  refine hK5 _ _ ?_
  refine c_true hF rfl ?_
  refine c_seq (fun K9 hK9 => ?_)
  refine c_reg ?_
  refine n_q hF hS (q_assign rfl) rfl (fun a hF => ?_)
  refine hK9 _ _ ?_
  refine c_ret ?_
  repeat (first | refine ret_then ?_ | refine ret_blk ?_)
  refine c_ret' (P := Tryd.prog) (fn := Tryd.f39) rfl hF hS (.tmp rfl .nil) ⟨_, rfl, ?_⟩
  have h9 : tb (Proves pub f.A f.B f.ds) = false := tb_false (fun q => by obtain ⟨q1, q2, q3, q4, q5, q6, q7, q8⟩ := q; rw [q2] at hc21; cases hc21)
  exact ⟨by rw [h9]; rfl, hS.same⟩
  refine n_yes hF rfl ?_
  refine n_q hF hS (q_fieldAddr fl39_0 (by decide) rfl) rfl (fun a hF => ?_)
  refine n_yes hF rfl ?_
  refine n_q hF hS (q_load ty3 rfl (i := 0) rfl (by simp [dc_length, Hd.c_len, En.c_len, Fk.c_len, List.length_replicate, List.length_cons, List.length_nil, List.length_append]) rfl (show ldv false 1 f.A.c 0 = some (.int .i64 f.A.st) from rfl)) rfl (fun a hF => ?_)
  refine n_yes hF rfl ?_
  refine n_q hF hS (q_fieldAddr fl39_0 (by decide) rfl) rfl (fun a hF => ?_)
  refine n_yes hF rfl ?_
  refine n_q hF hS (q_load ty3 rfl (i := 1) rfl (by simp [dc_length, Hd.c_len, En.c_len, Fk.c_len, List.length_replicate, List.length_cons, List.length_nil, List.length_append]) rfl (show ldv false 1 f.B.c 0 = some (.int .i64 f.B.st) from rfl)) rfl (fun a hF => ?_)
  refine n_yes hF rfl ?_
  refine n_q hF hS (q_neI rfl rfl) rfl (fun a hF => ?_)
  refine n_q hF hS (q_pick (b := false) rfl rfl) rfl (fun a hF => ?_)
  refine n_q hF hS (q_move rfl) rfl (fun a hF => ?_)
  refine spn hF (s := 28) rfl (fun hc28 hF => ?_) (fun hc28 hF => ?_)
  refine n_no hF (b := true) rfl rfl rfl (fun a hF => ?_)
  refine n_no hF (b := true) rfl rfl rfl (fun a hF => ?_)
  refine n_no hF (b := true) rfl rfl rfl (fun a hF => ?_)
  refine n_no hF (b := true) rfl rfl rfl (fun a hF => ?_)
  refine n_no hF (b := true) rfl rfl rfl (fun a hF => ?_)
  refine n_q hF hS (q_pick (b := true) rfl rfl) rfl (fun a hF => ?_)
  refine n_q hF hS (q_move rfl) rfl (fun a hF => ?_)
  refine n_no hF (b := true) rfl rfl rfl (fun a hF => ?_)
  refine n_no hF (b := true) rfl rfl rfl (fun a hF => ?_)
  refine n_no hF (b := true) rfl rfl rfl (fun a hF => ?_)
  refine n_no hF (b := true) rfl rfl rfl (fun a hF => ?_)
  refine n_no hF (b := true) rfl rfl rfl (fun a hF => ?_)
  refine n_q hF hS (q_pick (b := true) rfl rfl) rfl (fun a hF => ?_)
  refine n_q hF hS (q_move rfl) rfl (fun a hF => ?_)
  refine n_no hF (b := true) rfl rfl rfl (fun a hF => ?_)
  refine n_no hF (b := true) rfl rfl rfl (fun a hF => ?_)
  refine n_no hF (b := true) rfl rfl rfl (fun a hF => ?_)
  refine n_no hF (b := true) rfl rfl rfl (fun a hF => ?_)
  refine n_no hF (b := true) rfl rfl rfl (fun a hF => ?_)
  refine n_no hF (b := true) rfl rfl rfl (fun a hF => ?_)
  refine n_q hF hS (q_pick (b := true) rfl rfl) rfl (fun a hF => ?_)
  refine n_q hF hS (q_move rfl) rfl (fun a hF => ?_)
  refine n_no hF (b := true) rfl rfl rfl (fun a hF => ?_)
  refine n_no hF (b := true) rfl rfl rfl (fun a hF => ?_)
  refine n_no hF (b := true) rfl rfl rfl (fun a hF => ?_)
  refine n_no hF (b := true) rfl rfl rfl (fun a hF => ?_)
  refine n_no hF (b := true) rfl rfl rfl (fun a hF => ?_)
  refine n_q hF hS (q_pick (b := true) rfl rfl) rfl (fun a hF => ?_)
  refine n_q hF hS (q_move rfl) rfl (fun a hF => ?_)
  refine n_no hF (b := true) rfl rfl rfl (fun a hF => ?_)
  refine n_no hF (b := true) rfl rfl rfl (fun a hF => ?_)
  refine n_no hF (b := true) rfl rfl rfl (fun a hF => ?_)
  refine n_no hF (b := true) rfl rfl rfl (fun a hF => ?_)
  refine n_q hF hS (q_pick (b := true) rfl rfl) rfl (fun a hF => ?_)
  refine hK5 _ _ ?_
  refine c_true hF rfl ?_
  refine c_seq (fun K10 hK10 => ?_)
  refine c_reg ?_
  refine n_q hF hS (q_assign rfl) rfl (fun a hF => ?_)
  refine hK10 _ _ ?_
  refine c_ret ?_
  repeat (first | refine ret_then ?_ | refine ret_blk ?_)
  refine c_ret' (P := Tryd.prog) (fn := Tryd.f39) rfl hF hS (.tmp rfl .nil) ⟨_, rfl, ?_⟩
  have h9 : tb (Proves pub f.A f.B f.ds) = false := tb_false (fun q => by obtain ⟨q1, q2, q3, q4, q5, q6, q7, q8⟩ := q; omega)
  exact ⟨by rw [h9]; rfl, hS.same⟩
  refine n_yes hF rfl ?_
  refine n_q hF hS (q_fieldAddr fl39_1 (by decide) rfl) rfl (fun a hF => ?_)
  refine n_yes hF rfl ?_
  refine n_q hF hS (q_load ty3 rfl (i := 0) rfl (by simp [dc_length, Hd.c_len, En.c_len, Fk.c_len, List.length_replicate, List.length_cons, List.length_nil, List.length_append]) rfl (show ldv false 1 f.A.c 1 = some (.int .i64 f.A.fo) from rfl)) rfl (fun a hF => ?_)
  refine n_yes hF rfl ?_
  refine n_q hF hS (q_fieldAddr fl39_1 (by decide) rfl) rfl (fun a hF => ?_)
  refine n_yes hF rfl ?_
  refine n_q hF hS (q_load ty3 rfl (i := 1) rfl (by simp [dc_length, Hd.c_len, En.c_len, Fk.c_len, List.length_replicate, List.length_cons, List.length_nil, List.length_append]) rfl (show ldv false 1 f.B.c 1 = some (.int .i64 f.B.fo) from rfl)) rfl (fun a hF => ?_)
  refine n_yes hF rfl ?_
  refine n_q hF hS (q_neI rfl rfl) rfl (fun a hF => ?_)
  refine n_q hF hS (q_pick (b := false) rfl rfl) rfl (fun a hF => ?_)
  refine n_q hF hS (q_move rfl) rfl (fun a hF => ?_)
  refine spn hF (s := 35) rfl (fun hc35 hF => ?_) (fun hc35 hF => ?_)
  refine n_no hF (b := true) rfl rfl rfl (fun a hF => ?_)
  refine n_no hF (b := true) rfl rfl rfl (fun a hF => ?_)
  refine n_no hF (b := true) rfl rfl rfl (fun a hF => ?_)
  refine n_no hF (b := true) rfl rfl rfl (fun a hF => ?_)
  refine n_no hF (b := true) rfl rfl rfl (fun a hF => ?_)
  refine n_q hF hS (q_pick (b := true) rfl rfl) rfl (fun a hF => ?_)
  refine n_q hF hS (q_move rfl) rfl (fun a hF => ?_)
  refine n_no hF (b := true) rfl rfl rfl (fun a hF => ?_)
  refine n_no hF (b := true) rfl rfl rfl (fun a hF => ?_)
  refine n_no hF (b := true) rfl rfl rfl (fun a hF => ?_)
  refine n_no hF (b := true) rfl rfl rfl (fun a hF => ?_)
  refine n_no hF (b := true) rfl rfl rfl (fun a hF => ?_)
  refine n_no hF (b := true) rfl rfl rfl (fun a hF => ?_)
  refine n_q hF hS (q_pick (b := true) rfl rfl) rfl (fun a hF => ?_)
  refine n_q hF hS (q_move rfl) rfl (fun a hF => ?_)
  refine n_no hF (b := true) rfl rfl rfl (fun a hF => ?_)
  refine n_no hF (b := true) rfl rfl rfl (fun a hF => ?_)
  refine n_no hF (b := true) rfl rfl rfl (fun a hF => ?_)
  refine n_no hF (b := true) rfl rfl rfl (fun a hF => ?_)
  refine n_no hF (b := true) rfl rfl rfl (fun a hF => ?_)
  refine n_q hF hS (q_pick (b := true) rfl rfl) rfl (fun a hF => ?_)
  refine n_q hF hS (q_move rfl) rfl (fun a hF => ?_)
  refine n_no hF (b := true) rfl rfl rfl (fun a hF => ?_)
  refine n_no hF (b := true) rfl rfl rfl (fun a hF => ?_)
  refine n_no hF (b := true) rfl rfl rfl (fun a hF => ?_)
  refine n_no hF (b := true) rfl rfl rfl (fun a hF => ?_)
  refine n_q hF hS (q_pick (b := true) rfl rfl) rfl (fun a hF => ?_)
  refine hK5 _ _ ?_
  refine c_true hF rfl ?_
  refine c_seq (fun K11 hK11 => ?_)
  refine c_reg ?_
  refine n_q hF hS (q_assign rfl) rfl (fun a hF => ?_)
  refine hK11 _ _ ?_
  refine c_ret ?_
  repeat (first | refine ret_then ?_ | refine ret_blk ?_)
  refine c_ret' (P := Tryd.prog) (fn := Tryd.f39) rfl hF hS (.tmp rfl .nil) ⟨_, rfl, ?_⟩
  have h9 : tb (Proves pub f.A f.B f.ds) = false := tb_false (fun q => by obtain ⟨q1, q2, q3, q4, q5, q6, q7, q8⟩ := q; omega)
  exact ⟨by rw [h9]; rfl, hS.same⟩
  refine n_yes hF rfl ?_
  refine n_q hF hS (q_fieldAddr fl39_2 (by decide) rfl) rfl (fun a hF => ?_)
  refine n_yes hF rfl ?_
  refine n_q hF hS (q_load ty3 rfl (i := 0) rfl (by simp [dc_length, Hd.c_len, En.c_len, Fk.c_len, List.length_replicate, List.length_cons, List.length_nil, List.length_append]) rfl (show ldv false 1 f.A.c 2 = some (.int .i64 f.A.no) from rfl)) rfl (fun a hF => ?_)
  refine n_yes hF rfl ?_
  refine n_q hF hS (q_fieldAddr fl39_2 (by decide) rfl) rfl (fun a hF => ?_)
  refine n_yes hF rfl ?_
  refine n_q hF hS (q_load ty3 rfl (i := 1) rfl (by simp [dc_length, Hd.c_len, En.c_len, Fk.c_len, List.length_replicate, List.length_cons, List.length_nil, List.length_append]) rfl (show ldv false 1 f.B.c 2 = some (.int .i64 f.B.no) from rfl)) rfl (fun a hF => ?_)
  refine n_yes hF rfl ?_
  refine n_q hF hS (q_gtr rfl rfl) rfl (fun a hF => ?_)
  refine n_q hF hS (q_pick (b := false) rfl rfl) rfl (fun a hF => ?_)
  refine n_q hF hS (q_move rfl) rfl (fun a hF => ?_)
  refine spd hF (s := 42) rfl (fun hc42 hF => ?_) (fun hc42 hF => ?_)
  refine n_no hF (b := true) rfl rfl rfl (fun a hF => ?_)
  refine n_no hF (b := true) rfl rfl rfl (fun a hF => ?_)
  refine n_no hF (b := true) rfl rfl rfl (fun a hF => ?_)
  refine n_no hF (b := true) rfl rfl rfl (fun a hF => ?_)
  refine n_no hF (b := true) rfl rfl rfl (fun a hF => ?_)
  refine n_no hF (b := true) rfl rfl rfl (fun a hF => ?_)
  refine n_q hF hS (q_pick (b := true) rfl rfl) rfl (fun a hF => ?_)
  refine n_q hF hS (q_move rfl) rfl (fun a hF => ?_)
  refine n_no hF (b := true) rfl rfl rfl (fun a hF => ?_)
  refine n_no hF (b := true) rfl rfl rfl (fun a hF => ?_)
  refine n_no hF (b := true) rfl rfl rfl (fun a hF => ?_)
  refine n_no hF (b := true) rfl rfl rfl (fun a hF => ?_)
  refine n_no hF (b := true) rfl rfl rfl (fun a hF => ?_)
  refine n_q hF hS (q_pick (b := true) rfl rfl) rfl (fun a hF => ?_)
  refine n_q hF hS (q_move rfl) rfl (fun a hF => ?_)
  refine n_no hF (b := true) rfl rfl rfl (fun a hF => ?_)
  refine n_no hF (b := true) rfl rfl rfl (fun a hF => ?_)
  refine n_no hF (b := true) rfl rfl rfl (fun a hF => ?_)
  refine n_no hF (b := true) rfl rfl rfl (fun a hF => ?_)
  refine n_q hF hS (q_pick (b := true) rfl rfl) rfl (fun a hF => ?_)
  refine hK5 _ _ ?_
  refine c_true hF rfl ?_
  refine c_seq (fun K12 hK12 => ?_)
  refine c_reg ?_
  refine n_q hF hS (q_assign rfl) rfl (fun a hF => ?_)
  refine hK12 _ _ ?_
  refine c_ret ?_
  repeat (first | refine ret_then ?_ | refine ret_blk ?_)
  refine c_ret' (P := Tryd.prog) (fn := Tryd.f39) rfl hF hS (.tmp rfl .nil) ⟨_, rfl, ?_⟩
  have h9 : tb (Proves pub f.A f.B f.ds) = false := tb_false (fun q => by obtain ⟨q1, q2, q3, q4, q5, q6, q7, q8⟩ := q; omega)
  exact ⟨by rw [h9]; rfl, hS.same⟩
  refine n_yes hF rfl ?_
  refine n_q hF hS (q_fieldAddr fl39_2 (by decide) rfl) rfl (fun a hF => ?_)
  refine n_yes hF rfl ?_
  refine n_q hF hS (q_load ty3 rfl (i := 1) rfl (by simp [dc_length, Hd.c_len, En.c_len, Fk.c_len, List.length_replicate, List.length_cons, List.length_nil, List.length_append]) rfl (show ldv false 1 f.B.c 2 = some (.int .i64 f.B.no) from rfl)) rfl (fun a hF => ?_)
  refine n_yes hF rfl ?_
  refine n_q hF hS (q_fieldAddr fl82_2 (by decide) rfl) rfl (fun a hF => ?_)
  refine n_yes hF rfl ?_
  refine n_q hF hS (q_loadG (o := 0 + 74) (v := .slice f.da f.ds.length f.dp) ty45 rfl hbx.h (by rw [Fk.c_len]; decide) rfl (Fk.ld_ds f)) rfl (fun a hF => ?_)
  refine n_yes hF rfl ?_
  refine n_q hF hS (q_len Tryd.underlying45 rfl rfl) rfl (fun a hF => ?_)
  refine n_yes hF rfl ?_
  refine n_q hF hS (q_neI rfl rfl) rfl (fun a hF => ?_)
  refine n_q hF hS (q_pick (b := false) rfl rfl) rfl (fun a hF => ?_)
  refine n_q hF hS (q_move rfl) rfl (fun a hF => ?_)
  refine spn hF (s := 50) rfl (fun hc50 hF => ?_) (fun hc50 hF => ?_)
  refine n_no hF (b := true) rfl rfl rfl (fun a hF => ?_)
  refine n_no hF (b := true) rfl rfl rfl (fun a hF => ?_)
  refine n_no hF (b := true) rfl rfl rfl (fun a hF => ?_)
  refine n_no hF (b := true) rfl rfl rfl (fun a hF => ?_)
  refine n_no hF (b := true) rfl rfl rfl (fun a hF => ?_)
  refine n_q hF hS (q_pick (b := true) rfl rfl) rfl (fun a hF => ?_)
  refine n_q hF hS (q_move rfl) rfl (fun a hF => ?_)
  refine n_no hF (b := true) rfl rfl rfl (fun a hF => ?_)
  refine n_no hF (b := true) rfl rfl rfl (fun a hF => ?_)
  refine n_no hF (b := true) rfl rfl rfl (fun a hF => ?_)
  refine n_no hF (b := true) rfl rfl rfl (fun a hF => ?_)
  refine n_q hF hS (q_pick (b := true) rfl rfl) rfl (fun a hF => ?_)
  refine hK5 _ _ ?_
  refine c_true hF rfl ?_
  refine c_seq (fun K13 hK13 => ?_)
  refine c_reg ?_
  refine n_q hF hS (q_assign rfl) rfl (fun a hF => ?_)
  refine hK13 _ _ ?_
  refine c_ret ?_
  repeat (first | refine ret_then ?_ | refine ret_blk ?_)
  refine c_ret' (P := Tryd.prog) (fn := Tryd.f39) rfl hF hS (.tmp rfl .nil) ⟨_, rfl, ?_⟩
  have h9 : tb (Proves pub f.A f.B f.ds) = false := tb_false (fun q => by obtain ⟨q1, q2, q3, q4, q5, q6, q7, q8⟩ := q; omega)
  exact ⟨by rw [h9]; rfl, hS.same⟩
  refine n_yes hF rfl ?_
  refine n_q hF hS (q_load0 ty39 rfl (i := 1) rfl (by simp [dc_length, Hd.c_len, En.c_len, Fk.c_len, List.length_replicate, List.length_cons, List.length_nil, List.length_append]) rfl) rfl (fun a hF => ?_)
  refine n_yes hF rfl ?_
  refine n_q hF hS (q_fieldAddr fl82_2 (by decide) rfl) rfl (fun a hF => ?_)
  refine n_yes hF rfl ?_
  refine n_q hF hS (q_loadG (o := 0 + 74) (v := .slice f.da f.ds.length f.dp) ty45 rfl hbx.h (by rw [Fk.c_len]; decide) rfl (Fk.ld_ds f)) rfl (fun a hF => ?_)
  refine n_yes hF rfl ?_
  refine n_l rfl (fun K14 hK14 => l_call en77 hF rfl rfl (fits_c f.B f.ds f.da f.dp ho.dlen _ _ hS.fz hg ho.rdd) (fun v14 w hR a hF => ?_))
  obtain ⟨rfl, hc⟩ := hR
  replace hS := hS.call0 hc
  refine hK14 _ _ ?_
  refine n_yes hF rfl ?_
  refine n_q hF hS (q_not rfl) rfl (fun a hF => ?_)
  refine n_q hF hS (q_pick (b := false) rfl rfl) rfl (fun a hF => ?_)
  refine n_q hF hS (q_move rfl) rfl (fun a hF => ?_)
  refine sp hF (s := 57) rfl (fun hc57 hF => ?_) (fun hc57 hF => ?_)
  refine n_no hF (b := true) rfl rfl rfl (fun a hF => ?_)
  refine n_no hF (b := true) rfl rfl rfl (fun a hF => ?_)
  refine n_no hF (b := true) rfl rfl rfl (fun a hF => ?_)
  refine n_no hF (b := true) rfl rfl rfl (fun a hF => ?_)
  refine n_q hF hS (q_pick (b := true) rfl rfl) rfl (fun a hF => ?_)
  refine hK5 _ _ ?_
  refine c_true hF rfl ?_
  refine c_seq (fun K15 hK15 => ?_)
  refine c_reg ?_
  refine n_q hF hS (q_assign rfl) rfl (fun a hF => ?_)
  refine hK15 _ _ ?_
  refine c_ret ?_
  repeat (first | refine ret_then ?_ | refine ret_blk ?_)
  refine c_ret' (P := Tryd.prog) (fn := Tryd.f39) rfl hF hS (.tmp rfl .nil) ⟨_, rfl, ?_⟩
  have h9 : tb (Proves pub f.A f.B f.ds) = false := tb_false (fun q => by obtain ⟨q1, q2, q3, q4, q5, q6, q7, q8⟩ := q; rw [tb_true q7] at hc57; cases hc57)
  exact ⟨by rw [h9]; rfl, hS.same⟩
  refine n_yes hF rfl ?_
  refine n_q hF hS (q_load0 ty39 rfl (i := 0) rfl (by simp [dc_length, Hd.c_len, En.c_len, Fk.c_len, List.length_replicate, List.length_cons, List.length_nil, List.length_append]) rfl) rfl (fun a hF => ?_)
  refine n_yes hF rfl ?_
  refine n_q hF hS (q_fieldAddr fl82_2 (by decide) rfl) rfl (fun a hF => ?_)
  refine n_yes hF rfl ?_
  refine n_q hF hS (q_loadG (o := 0 + 74) (v := .slice f.da f.ds.length f.dp) ty45 rfl hbx.h (by rw [Fk.c_len]; decide) rfl (Fk.ld_ds f)) rfl (fun a hF => ?_)
  refine n_yes hF rfl ?_
  refine n_l rfl (fun K16 hK16 => l_call en77 hF rfl rfl (fits_c f.A f.ds f.da f.dp ho.dlen _ _ hS.fz hg ho.rdd) (fun v16 w hR a hF => ?_))
  obtain ⟨rfl, hc⟩ := hR
  replace hS := hS.call0 hc
  refine hK16 _ _ ?_
  refine n_q hF hS (q_pick (b := false) rfl rfl) rfl (fun a hF => ?_)
  refine hK5 _ _ ?_
  refine sp hF (s := 62) rfl (fun hc62 hF => ?_) (fun hc62 hF => ?_)
  refine c_true hF rfl ?_
  refine c_seq (fun K17 hK17 => ?_)
  refine c_reg ?_
  refine n_q hF hS (q_assign rfl) rfl (fun a hF => ?_)
  refine hK17 _ _ ?_
  refine c_ret ?_
  repeat (first | refine ret_then ?_ | refine ret_blk ?_)
  refine c_ret' (P := Tryd.prog) (fn := Tryd.f39) rfl hF hS (.tmp rfl .nil) ⟨_, rfl, ?_⟩
  have h9 : tb (Proves pub f.A f.B f.ds) = false := tb_false (fun q => by obtain ⟨q1, q2, q3, q4, q5, q6, q7, q8⟩ := q; rw [tb_false q8] at hc62; cases hc62)
  exact ⟨by rw [h9]; rfl, hS.same⟩
  refine c_false hF rfl ?_
  refine wp_skip ?_
  refine hK4 _ _ ?_
  refine c_seq (fun K18 hK18 => ?_)
  refine c_reg ?_
  refine n_q hF hS (q_assign rfl) rfl (fun a hF => ?_)
  refine hK18 _ _ ?_
  refine c_ret ?_
  repeat (first | refine ret_then ?_ | refine ret_blk ?_)
  refine c_ret' (P := Tryd.prog) (fn := Tryd.f39) rfl hF hS (.tmp rfl .nil) ⟨_, rfl, ?_⟩
  have h9 : tb (Proves pub f.A f.B f.ds) = true := tb_true ⟨by simpa using hc15, by simpa using hc21, by omega, by omega, by omega, by omega, tb_iff.1 (by simpa using hc57), tb_not (by simpa using hc62)⟩
  exact ⟨by rw [h9]; rfl, hS.same⟩
  intro K3 hK3
  have hj3 := hS.rl
  refine r_start (fun _ => []) [] mo hS (fun w hS => ?_)
  refine r_q (i := 0) rfl rfl hF (hS.lose (List.nil_sublist _)) (q_fieldAddr fl82_0 (by decide) rfl) rfl (fun a hF => ?_)
  refine r_q (i := 1) rfl rfl hF (hS.lose (List.nil_sublist _)) (q_loadG (o := 0 + 0) (v := .agg f.A.c.toArray) ty39 rfl hbx.h (by rw [Fk.c_len]; decide) rfl (Fk.ld_A f)) rfl (fun a hF => ?_)
  refine r_q (i := 2) rfl rfl hF (hS.lose (List.nil_sublist _)) (q_fieldAddr fl82_1 (by decide) rfl) rfl (fun a hF => ?_)
  refine r_q (i := 3) rfl rfl hF (hS.lose (List.nil_sublist _)) (q_loadG (o := 0 + 37) (v := .agg f.B.c.toArray) ty39 rfl hbx.h (by rw [Fk.c_len]; decide) rfl (Fk.ld_B f)) rfl (fun a hF => ?_)
  refine r_two (i := 4) (j := 5) (by kernel_rfl) ?_ ?_
  refine r_li rfl rfl (fun K19 hK19 => l_alloc hF hS zr39 rfl (fun a w b2 hF hS => hK19 _ _ _ (hS.lose (List.nil_sublist _)) (fun _ h => h) ?_))
  refine r_one (i := 5) (by kernel_rfl) ?_
  refine r_li rfl rfl (fun K20 hK20 => l_alloc hF hS zr39 rfl (fun a w b3 hF hS => hK20 _ _ _ (hS.lose (List.nil_sublist _)) (fun _ h => h) ?_))
  refine r_one (i := 6) (by kernel_rfl) ?_
  refine r_li rfl rfl (fun K21 hK21 => l_store0A ty39 hF hS rfl rfl (i := 1) rfl (by simp [dc_length, Hd.c_len, En.c_len, Fk.c_len, List.length_replicate, List.length_cons, List.length_nil, List.length_append]) (by simp [dc_length, Hd.c_len, En.c_len, Fk.c_len, List.length_replicate, List.length_cons, List.length_nil, List.length_append]) (Hd.c_all1 _) (fun a w hF hS => hK21 _ _ _ (hS.lose (List.nil_sublist _)) (fun _ h => h) ?_))
  refine r_one (i := 7) (by kernel_rfl) ?_
  refine r_li rfl rfl (fun K22 hK22 => l_store0A ty39 hF hS rfl rfl (i := 0) rfl (by simp [dc_length, Hd.c_len, En.c_len, Fk.c_len, List.length_replicate, List.length_cons, List.length_nil, List.length_append]) (by simp [dc_length, Hd.c_len, En.c_len, Fk.c_len, List.length_replicate, List.length_cons, List.length_nil, List.length_append]) (Hd.c_all1 _) (fun a w hF hS => hK22 _ _ _ (hS.lose (List.nil_sublist _)) (fun _ h => h) ?_))
  refine r_done (by kernel_rfl) ?_
  exact hK3 ((b2, b3)) _ _ _ hj3 (hF.meet ⟨rfl, rfl, trivial⟩ (by repeat first | exact Ext.remr _ _ | refine Ext.push rfl ?_ | refine Ext.rem' rfl ?_)) (St.perm (L := [_, _]) (L' := [_, _]) hS (List.Perm.swap _ _ _)) trivial
  refine r_li rfl rfl (fun K23 hK23 => l_alloc hF hS zr39 rfl (fun a w b4 hF hS => hK23 _ _ _ (hS.lose (List.nil_sublist _)) (fun _ h => h) ?_))
  refine r_one (i := 4) (by kernel_rfl) ?_
  refine r_li rfl rfl (fun K24 hK24 => l_alloc hF hS zr39 rfl (fun a w b5 hF hS => hK24 _ _ _ (hS.lose (List.nil_sublist _)) (fun _ h => h) ?_))
  refine r_one (i := 6) (by kernel_rfl) ?_
  refine r_li rfl rfl (fun K25 hK25 => l_store0A ty39 hF hS rfl rfl (i := 0) rfl (by simp [dc_length, Hd.c_len, En.c_len, Fk.c_len, List.length_replicate, List.length_cons, List.length_nil, List.length_append]) (by simp [dc_length, Hd.c_len, En.c_len, Fk.c_len, List.length_replicate, List.length_cons, List.length_nil, List.length_append]) (Hd.c_all1 _) (fun a w hF hS => hK25 _ _ _ (hS.lose (List.nil_sublist _)) (fun _ h => h) ?_))
  refine r_one (i := 7) (by kernel_rfl) ?_
  refine r_li rfl rfl (fun K26 hK26 => l_store0A ty39 hF hS rfl rfl (i := 1) rfl (by simp [dc_length, Hd.c_len, En.c_len, Fk.c_len, List.length_replicate, List.length_cons, List.length_nil, List.length_append]) (by simp [dc_length, Hd.c_len, En.c_len, Fk.c_len, List.length_replicate, List.length_cons, List.length_nil, List.length_append]) (Hd.c_all1 _) (fun a w hF hS => hK26 _ _ _ (hS.lose (List.nil_sublist _)) (fun _ h => h) ?_))
  refine r_done (by kernel_rfl) ?_
  exact hK3 ((b5, b4)) _ _ _ hj3 (hF.meet ⟨rfl, rfl, trivial⟩ (by repeat first | exact Ext.remr _ _ | refine Ext.push rfl ?_ | refine Ext.rem' rfl ?_)) hS trivial

theorem isEntry_c (e : En) (w : World) (H : Froz) (hz : Fz H w) (hg : Gl 0 1 H) (hr : RdS H e.da e.dn 1 (bc e.bs)) (hn : e.dn ≤ 1000000) (hcap : e.dn ≤ e.dp) :
    CallsR Tryd.prog 76 [.agg e.c.toArray] w fun r w' => r = .bool (tb (IsE e)) ∧ St ⟨w, H, []⟩ H [] w' := by
  refine calls_start Tryd.func76 rfl Tryd.ntmps76 rfl (fun a hF => ?_)
  have hS := St.start w H hz
  refine c_seq (fun K1 hK1 => ?_)
  refine c_reg ?_
  refine n_l rfl (fun K2 hK2 => l_boxA hF hS rfl rfl (fun a w b1 hF hS => hK2 _ _ ?_))
  refine n_q hF hS (q_assign rfl) rfl (fun a hF => ?_)
  refine hK1 _ _ ?_
  refine c_seq (fun K3 hK3 => ?_)
  refine c_block ?_
  refine c_seq (fun K4 hK4 => ?_)
  refine c_reg ?_
  refine n_q hF hS (q_fieldAddr fl48_0 (by decide) rfl) rfl (fun a hF => ?_)
  refine n_q hF hS (q_load ty3 rfl (i := 0) rfl (by simp [dc_length, Hd.c_len, En.c_len, Fk.c_len, List.length_replicate, List.length_cons, List.length_nil, List.length_append]) rfl (show ldv false 1 e.c 0 = some (.int .i64 e.kind) from rfl)) rfl (fun a hF => ?_)
  refine n_q hF hS (q_lss rfl rfl) rfl (fun a hF => ?_)
  refine n_q hF hS (q_move rfl) rfl (fun a hF => ?_)
  refine spd hF (s := 7) rfl (fun hc7 hF => ?_) (fun hc7 hF => ?_)
  refine n_no hF (b := true) rfl rfl rfl (fun a hF => ?_)
  refine n_no hF (b := true) rfl rfl rfl (fun a hF => ?_)
  refine n_no hF (b := true) rfl rfl rfl (fun a hF => ?_)
  refine n_q hF hS (q_pick (b := true) rfl rfl) rfl (fun a hF => ?_)
  refine n_q hF hS (q_assign rfl) rfl (fun a hF => ?_)
  refine hK4 _ _ ?_
  refine c_true hF rfl ?_
  refine c_seq (fun K5 hK5 => ?_)
  refine c_reg ?_
  refine n_q hF hS (q_assign rfl) rfl (fun a hF => ?_)
  refine hK5 _ _ ?_
  refine c_ret ?_
  repeat (first | refine ret_then ?_ | refine ret_blk ?_)
  refine c_ret' (P := Tryd.prog) (fn := Tryd.f76) rfl hF hS (.tmp rfl .nil) ⟨_, rfl, ?_⟩
  exact ⟨by rw [tb_false (fun q => by obtain ⟨q1, _⟩ := q; omega)]; rfl, hS.same⟩
  refine n_yes hF rfl ?_
  refine n_q hF hS (q_fieldAddr fl48_0 (by decide) rfl) rfl (fun a hF => ?_)
  refine n_yes hF rfl ?_
  refine n_q hF hS (q_load ty3 rfl (i := 0) rfl (by simp [dc_length, Hd.c_len, En.c_len, Fk.c_len, List.length_replicate, List.length_cons, List.length_nil, List.length_append]) rfl (show ldv false 1 e.c 0 = some (.int .i64 e.kind) from rfl)) rfl (fun a hF => ?_)
  refine n_yes hF rfl ?_
  refine n_q hF hS (q_gtr rfl rfl) rfl (fun a hF => ?_)
  refine n_q hF hS (q_pick (b := false) rfl rfl) rfl (fun a hF => ?_)
  refine n_q hF hS (q_assign rfl) rfl (fun a hF => ?_)
  refine hK4 _ _ ?_
  refine spd hF (s := 3) rfl (fun hc3 hF => ?_) (fun hc3 hF => ?_)
  refine c_true hF rfl ?_
  refine c_seq (fun K6 hK6 => ?_)
  refine c_reg ?_
  refine n_q hF hS (q_assign rfl) rfl (fun a hF => ?_)
  refine hK6 _ _ ?_
  refine c_ret ?_
  repeat (first | refine ret_then ?_ | refine ret_blk ?_)
  refine c_ret' (P := Tryd.prog) (fn := Tryd.f76) rfl hF hS (.tmp rfl .nil) ⟨_, rfl, ?_⟩
  exact ⟨by rw [tb_false (fun q => by obtain ⟨q1, _⟩ := q; omega)]; rfl, hS.same⟩
  refine c_false hF rfl ?_
  refine c_seq (fun K7 hK7 => ?_)
  refine c_reg ?_
  refine n_q hF hS (q_fieldAddr fl48_3 (by decide) rfl) rfl (fun a hF => ?_)
  refine n_q hF hS (q_load ty4 rfl (i := 0) rfl (by simp [dc_length, Hd.c_len, En.c_len, Fk.c_len, List.length_replicate, List.length_cons, List.length_nil, List.length_append]) rfl (En.ld_go e)) rfl (fun a hF => ?_)
  refine n_q hF hS (q_assign rfl) rfl (fun a hF => ?_)
  refine hK7 _ _ ?_
  refine sp hF (s := 12) rfl (fun hc12 hF => ?_) (fun hc12 hF => ?_)
  refine c_true hF rfl ?_
  refine c_seq (fun K8 hK8 => ?_)
  refine c_reg ?_
  refine n_q hF hS (q_fieldAddr fl48_0 (by decide) rfl) rfl (fun a hF => ?_)
  refine n_q hF hS (q_load ty3 rfl (i := 0) rfl (by simp [dc_length, Hd.c_len, En.c_len, Fk.c_len, List.length_replicate, List.length_cons, List.length_nil, List.length_append]) rfl (show ldv false 1 e.c 0 = some (.int .i64 e.kind) from rfl)) rfl (fun a hF => ?_)
  refine n_q hF hS (q_eqI rfl rfl) rfl (fun a hF => ?_)
  refine n_q hF hS (q_move rfl) rfl (fun a hF => ?_)
  refine spd hF (s := 18) rfl (fun hc18 hF => ?_) (fun hc18 hF => ?_)
  refine n_yes hF rfl ?_
  refine n_q hF hS (q_fieldAddr fl48_2 (by decide) rfl) rfl (fun a hF => ?_)
  refine n_yes hF rfl ?_
  refine n_q hF hS (q_load ty46 rfl (i := 0) rfl (by simp [dc_length, Hd.c_len, En.c_len, Fk.c_len, List.length_replicate, List.length_cons, List.length_nil, List.length_append]) rfl (En.ld_da e)) rfl (fun a hF => ?_)
  refine n_yes hF rfl ?_
  refine n_q hF hS (q_len Tryd.underlying46 rfl rfl) rfl (fun a hF => ?_)
  refine n_yes hF rfl ?_
  refine n_q hF hS (q_eqI rfl rfl) rfl (fun a hF => ?_)
  refine n_q hF hS (q_pick (b := true) rfl rfl) rfl (fun a hF => ?_)
  refine n_q hF hS (q_assign rfl) rfl (fun a hF => ?_)
  refine hK8 _ _ ?_
  refine c_ret ?_
  repeat (first | refine ret_then ?_ | refine ret_blk ?_)
  refine c_ret' (P := Tryd.prog) (fn := Tryd.f76) rfl hF hS (.tmp rfl .nil) ⟨_, rfl, ?_⟩
  refine ⟨?_, hS.same⟩
  have h9 : tb (IsE e) = decide ((e.dn : Int) = 0) := by
    by_cases h0 : e.dn = 0
    · rw [decide_eq_true (by omega), tb_true (show IsE e from ⟨by omega, fun _ => ⟨hc18, h0⟩, fun q => by rw [hc12] at q; cases q⟩)]
    · rw [decide_eq_false (by omega), tb_false (fun q => h0 (q.2.1 hc12).2)]
  rw [h9]; rfl
  refine n_no hF (b := false) rfl rfl rfl (fun a hF => ?_)
  refine n_no hF (b := false) rfl rfl rfl (fun a hF => ?_)
  refine n_no hF (b := false) rfl rfl rfl (fun a hF => ?_)
  refine n_no hF (b := false) rfl rfl rfl (fun a hF => ?_)
  refine n_q hF hS (q_pick (b := false) rfl rfl) rfl (fun a hF => ?_)
  refine n_q hF hS (q_assign rfl) rfl (fun a hF => ?_)
  refine hK8 _ _ ?_
  refine c_ret ?_
  repeat (first | refine ret_then ?_ | refine ret_blk ?_)
  refine c_ret' (P := Tryd.prog) (fn := Tryd.f76) rfl hF hS (.tmp rfl .nil) ⟨_, rfl, ?_⟩
  exact ⟨by rw [tb_false (fun q => hc18 (q.2.1 hc12).1)]; rfl, hS.same⟩
  refine c_false hF rfl ?_
  refine wp_skip ?_
  refine hK3 _ _ ?_
  refine c_seq (fun K9 hK9 => ?_)
  refine r_start (fun L => L) [] mo hS (fun w hS => ?_)
  refine r_q (i := 0) rfl rfl hF hS (q_fieldAddr fl48_1 (by decide) rfl) rfl (fun a hF => ?_)
  refine r_q (i := 1) rfl rfl hF hS (q_load ty35 rfl (i := 0) rfl (by simp [dc_length, Hd.c_len, En.c_len, Fk.c_len, List.length_replicate, List.length_cons, List.length_nil, List.length_append]) rfl (En.ld_dg e)) rfl (fun a hF => ?_)
  refine r_q (i := 2) rfl rfl hF hS (q_fieldAddr fl48_0 (by decide) rfl) rfl (fun a hF => ?_)
  refine r_q (i := 3) rfl rfl hF hS (q_load ty3 rfl (i := 0) rfl (by simp [dc_length, Hd.c_len, En.c_len, Fk.c_len, List.length_replicate, List.length_cons, List.length_nil, List.length_append]) rfl (show ldv false 1 e.c 0 = some (.int .i64 e.kind) from rfl)) rfl (fun a hF => ?_)
  refine r_q (i := 4) rfl rfl hF hS (q_fieldAddr fl48_2 (by decide) rfl) rfl (fun a hF => ?_)
  refine r_q (i := 5) rfl rfl hF hS (q_load ty46 rfl (i := 0) rfl (by simp [dc_length, Hd.c_len, En.c_len, Fk.c_len, List.length_replicate, List.length_cons, List.length_nil, List.length_append]) rfl (En.ld_da e)) rfl (fun a hF => ?_)
  refine r_one (i := 6) (by kernel_rfl) ?_
  have hsub := hS.sub
  refine r_li rfl rfl (fun K10 hK10 => l_call en22 hF rfl rfl (Digest_c e.kind e.bs e.da e.dn e.dp hn hcap _ _ hS.fz hg hr) (fun v10 w hR a hF => ?_))
  obtain ⟨rfl, hc⟩ := hR
  replace hS := hS.call0 hc
  refine hK10 _ _ _ hS (fun _ h => h) ?_
  refine r_q (i := 7) rfl rfl hF hS (q_eqDg gu35 Tryd.underlying35 Tryd.underlying5 ty5 rfl rfl) rfl (fun a hF => ?_)
  refine r_q (i := 8) rfl rfl hF hS (q_assign rfl) rfl (fun a hF => ?_)
  refine r_done (by kernel_rfl) ?_
  refine hK9 _ _ ?_
  refine c_ret ?_
  repeat (first | refine ret_then ?_ | refine ret_blk ?_)
  refine c_ret' (P := Tryd.prog) (fn := Tryd.f76) rfl hF hS (.tmp rfl .nil) ⟨_, rfl, ?_⟩
  refine ⟨?_, hS.same⟩
  have h9 : tb (IsE e) = decide (e.dg = digE e.kind e.bs) := by
    by_cases h0 : e.dg = digE e.kind e.bs
    · rw [decide_eq_true h0, tb_true (show IsE e from ⟨by omega, fun q => (by rw [hc12] at q; cases q), fun _ => h0⟩)]
    · rw [decide_eq_false h0, tb_false (fun q => h0 (q.2.2 hc12))]
  rw [h9]; rfl

set_option maxHeartbeats 1600000 in
theorem Compare_v_c (a_ b_ : Vw) (w : World) (H : Froz) (hz : Fz H w) (hg : Gl 0 1 H) (hoa : VwOK H a_) (hob : VwOK H b_) :
    CallsR Tryd.prog 34 [.agg a_.c.toArray, .agg b_.c.toArray] w fun r w' => r = .tuple #[.agg ((cmpO a_ b_).getD zFk).c.toArray, .bool (cmpO a_ b_).isSome] ∧ St ⟨w, H, []⟩ H [] w' := by
  refine calls_start Tryd.func34 rfl Tryd.ntmps34 rfl (fun a hF => ?_)
  have hS := St.start w H hz
  have hda := hoa.dlen
  have hdb := hob.dlen
  refine c_seq (fun K1 hK1 => ?_)
  refine c_reg ?_
  refine n_l rfl (fun K2 hK2 => l_boxA hF hS rfl rfl (fun a w b1 hF hS => hK2 _ _ ?_))
  refine n_l rfl (fun K3 hK3 => l_boxA hF hS rfl rfl (fun a w b2 hF hS => hK3 _ _ ?_))
  refine n_l rfl (fun K4 hK4 => l_alloc hF hS zr82 rfl (fun a w b3 hF hS => hK4 _ _ ?_))
  refine n_q hF hS (q_assign rfl) rfl (fun a hF => ?_)
  refine hK1 _ _ ?_
  obtain ⟨H_hbxa, hH_hbxa, hle_hbxa, hS_hbxa⟩ := hS.freeze' (i := 2) rfl
  replace hS := hS_hbxa
  replace hg := hg.mono hle_hbxa
  replace hoa := hoa.mono hle_hbxa
  replace hob := hob.mono hle_hbxa
  have hbxa : HR H_hbxa b1 a_.c := by rw [hH_hbxa]; exact frz_hr
  obtain ⟨H_hbxb, hH_hbxb, hle_hbxb, hS_hbxb⟩ := hS.freeze' (i := 1) rfl
  replace hS := hS_hbxb
  replace hg := hg.mono hle_hbxb
  replace hoa := hoa.mono hle_hbxb
  replace hob := hob.mono hle_hbxb
  replace hbxa := hbxa.mono hle_hbxb
  have hbxb : HR H_hbxb b2 b_.c := by rw [hH_hbxb]; exact frz_hr
  refine c_join (γ := Nat × Nat) hF hS [6, 7, 8, 9, 10, 11] (fun g => [(6, .pointer (some ⟨g.1, 0, none⟩)), (7, .pointer (some ⟨g.2, 0, none⟩))]) (fun g => [⟨g.1, a_.c, 134⟩, ⟨g.2, b_.c, 134⟩, ⟨b3, zFk.c, 82⟩]) (fun _ _ => True) ?_ ?_
  intro g a w H hle hF hS hJ
  replace hg := hg.mono hle
  replace hoa := hoa.mono hle
  replace hob := hob.mono hle
  replace hbxa := hbxa.mono hle
  replace hbxb := hbxb.mono hle
  obtain ⟨b6, b7⟩ := g
  try dsimp only at hF hS
  refine c_seq (fun K6 hK6 => ?_)
  refine c_seq (fun K7 hK7 => ?_)
  refine c_reg ?_
  refine n_q hF hS (q_load0 ty134 rfl (i := 0) rfl rfl rfl) rfl (fun a hF => ?_)
  refine n_l rfl (fun K8 hK8 => l_call en73 hF rfl rfl (valid_v_c a_ _ _ hS.fz hg hoa) (fun v8 w hR a hF => ?_))
  obtain ⟨rfl, hc⟩ := hR
  replace hS := hS.call0 hc
  refine hK8 _ _ ?_
  refine n_q hF hS (q_not rfl) rfl (fun a hF => ?_)
  refine n_q hF hS (q_move rfl) rfl (fun a hF => ?_)
  refine sp hF (s := 15) rfl (fun hc15 hF => ?_) (fun hc15 hF => ?_)
  refine n_no hF (b := true) rfl rfl rfl (fun a hF => ?_)
  refine n_no hF (b := true) rfl rfl rfl (fun a hF => ?_)
  refine n_no hF (b := true) rfl rfl rfl (fun a hF => ?_)
  refine n_q hF hS (q_pick (b := true) rfl rfl) rfl (fun a hF => ?_)
  refine n_q hF hS (q_move rfl) rfl (fun a hF => ?_)
  refine n_no hF (b := true) rfl rfl rfl (fun a hF => ?_)
  refine n_no hF (b := true) rfl rfl rfl (fun a hF => ?_)
  refine n_no hF (b := true) rfl rfl rfl (fun a hF => ?_)
  refine n_no hF (b := true) rfl rfl rfl (fun a hF => ?_)
  refine n_no hF (b := true) rfl rfl rfl (fun a hF => ?_)
  refine n_q hF hS (q_pick (b := true) rfl rfl) rfl (fun a hF => ?_)
  refine n_q hF hS (q_move rfl) rfl (fun a hF => ?_)
  refine n_no hF (b := true) rfl rfl rfl (fun a hF => ?_)
  refine n_no hF (b := true) rfl rfl rfl (fun a hF => ?_)
  refine n_no hF (b := true) rfl rfl rfl (fun a hF => ?_)
  refine n_no hF (b := true) rfl rfl rfl (fun a hF => ?_)
  refine n_no hF (b := true) rfl rfl rfl (fun a hF => ?_)
  refine n_q hF hS (q_pick (b := true) rfl rfl) rfl (fun a hF => ?_)
  refine n_q hF hS (q_move rfl) rfl (fun a hF => ?_)
  refine n_no hF (b := true) rfl rfl rfl (fun a hF => ?_)
  refine n_no hF (b := true) rfl rfl rfl (fun a hF => ?_)
  refine n_no hF (b := true) rfl rfl rfl (fun a hF => ?_)
  refine n_no hF (b := true) rfl rfl rfl (fun a hF => ?_)
  refine n_no hF (b := true) rfl rfl rfl (fun a hF => ?_)
  refine n_q hF hS (q_pick (b := true) rfl rfl) rfl (fun a hF => ?_)
  refine hK7 _ _ ?_
  refine c_true hF rfl ?_
  refine c_seq (fun K9 hK9 => ?_)
  refine c_reg ?_
  refine n_q hF hS (q_load0 ty82 rfl (i := 2) rfl (by simp [dc_length, Hd.c_len, En.c_len, Fk.c_len, List.length_replicate, List.length_cons, List.length_nil, List.length_append]) rfl) rfl (fun a hF => ?_)
  refine n_l rfl (fun K10 hK10 => l_store0A ty82 hF hS rfl rfl (i := 2) rfl (by simp [dc_length, Hd.c_len, En.c_len, Fk.c_len, List.length_replicate, List.length_cons, List.length_nil, List.length_append]) (by simp [dc_length, Hd.c_len, En.c_len, Fk.c_len, List.length_replicate, List.length_cons, List.length_nil, List.length_append]) (Fk.c_all1 zFk) (fun a w hF hS => hK10 _ _ ?_))
  refine n_q hF hS (q_assign rfl) rfl (fun a hF => ?_)
  refine hK9 _ _ ?_
  refine c_ret ?_
  repeat (first | refine ret_then ?_ | refine ret_blk ?_)
  refine c_ret' (P := Tryd.prog) (fn := Tryd.f34) rfl hF hS (.cell0 rfl ty82 (i := 2) rfl (by simp [dc_length, Hd.c_len, En.c_len, Fk.c_len, List.length_replicate, List.length_cons, List.length_nil, List.length_append]) rfl (.tmp rfl .nil)) ⟨_, rfl, ?_⟩
  have h9 : cmpO a_ b_ = none := cmpO_no (fun q => by obtain ⟨q1, q2, q3, q4, q5⟩ := q; rw [tb_true q1] at hc15; cases hc15)
  exact ⟨by rw [h9]; rfl, hS.same⟩
  refine n_yes hF rfl ?_
  refine n_q hF hS (q_load0 ty134 rfl (i := 1) rfl rfl rfl) rfl (fun a hF => ?_)
  refine n_yes hF rfl ?_
  refine n_l rfl (fun K11 hK11 => l_call en73 hF rfl rfl (valid_v_c b_ _ _ hS.fz hg hob) (fun v11 w hR a hF => ?_))
  obtain ⟨rfl, hc⟩ := hR
  replace hS := hS.call0 hc
  refine hK11 _ _ ?_
  refine n_yes hF rfl ?_
  refine n_q hF hS (q_not rfl) rfl (fun a hF => ?_)
  refine n_q hF hS (q_pick (b := false) rfl rfl) rfl (fun a hF => ?_)
  refine n_q hF hS (q_move rfl) rfl (fun a hF => ?_)
  refine sp hF (s := 20) rfl (fun hc20 hF => ?_) (fun hc20 hF => ?_)
  refine n_no hF (b := true) rfl rfl rfl (fun a hF => ?_)
  refine n_no hF (b := true) rfl rfl rfl (fun a hF => ?_)
  refine n_no hF (b := true) rfl rfl rfl (fun a hF => ?_)
  refine n_no hF (b := true) rfl rfl rfl (fun a hF => ?_)
  refine n_no hF (b := true) rfl rfl rfl (fun a hF => ?_)
  refine n_q hF hS (q_pick (b := true) rfl rfl) rfl (fun a hF => ?_)
  refine n_q hF hS (q_move rfl) rfl (fun a hF => ?_)
  refine n_no hF (b := true) rfl rfl rfl (fun a hF => ?_)
  refine n_no hF (b := true) rfl rfl rfl (fun a hF => ?_)
  refine n_no hF (b := true) rfl rfl rfl (fun a hF => ?_)
  refine n_no hF (b := true) rfl rfl rfl (fun a hF => ?_)
  refine n_no hF (b := true) rfl rfl rfl (fun a hF => ?_)
  refine n_q hF hS (q_pick (b := true) rfl rfl) rfl (fun a hF => ?_)
  refine n_q hF hS (q_move rfl) rfl (fun a hF => ?_)
  refine n_no hF (b := true) rfl rfl rfl (fun a hF => ?_)
  refine n_no hF (b := true) rfl rfl rfl (fun a hF => ?_)
  refine n_no hF (b := true) rfl rfl rfl (fun a hF => ?_)
  refine n_no hF (b := true) rfl rfl rfl (fun a hF => ?_)
  refine n_no hF (b := true) rfl rfl rfl (fun a hF => ?_)
  refine n_q hF hS (q_pick (b := true) rfl rfl) rfl (fun a hF => ?_)
  refine hK7 _ _ ?_
  refine c_true hF rfl ?_
  refine c_seq (fun K12 hK12 => ?_)
  refine c_reg ?_
  refine n_q hF hS (q_load0 ty82 rfl (i := 2) rfl (by simp [dc_length, Hd.c_len, En.c_len, Fk.c_len, List.length_replicate, List.length_cons, List.length_nil, List.length_append]) rfl) rfl (fun a hF => ?_)
  refine n_l rfl (fun K13 hK13 => l_store0A ty82 hF hS rfl rfl (i := 2) rfl (by simp [dc_length, Hd.c_len, En.c_len, Fk.c_len, List.length_replicate, List.length_cons, List.length_nil, List.length_append]) (by simp [dc_length, Hd.c_len, En.c_len, Fk.c_len, List.length_replicate, List.length_cons, List.length_nil, List.length_append]) (Fk.c_all1 zFk) (fun a w hF hS => hK13 _ _ ?_))
  refine n_q hF hS (q_assign rfl) rfl (fun a hF => ?_)
  refine hK12 _ _ ?_
  refine c_ret ?_
  repeat (first | refine ret_then ?_ | refine ret_blk ?_)
  refine c_ret' (P := Tryd.prog) (fn := Tryd.f34) rfl hF hS (.cell0 rfl ty82 (i := 2) rfl (by simp [dc_length, Hd.c_len, En.c_len, Fk.c_len, List.length_replicate, List.length_cons, List.length_nil, List.length_append]) rfl (.tmp rfl .nil)) ⟨_, rfl, ?_⟩
  have h9 : cmpO a_ b_ = none := cmpO_no (fun q => by obtain ⟨q1, q2, q3, q4, q5⟩ := q; rw [tb_true q2] at hc20; cases hc20)
  exact ⟨by rw [h9]; rfl, hS.same⟩
  refine n_yes hF rfl ?_
  refine n_q hF hS (q_fieldAddr fl77_0 (by decide) rfl) rfl (fun a hF => ?_)
  refine n_yes hF rfl ?_
  refine n_q hF hS (q_loadG (o := 0 + 0) (v := .int .i64 a_.st) ty3 rfl hbxa.h (Nat.le_of_ble_eq_true rfl) rfl rfl) rfl (fun a hF => ?_)
  refine n_yes hF rfl ?_
  refine n_q hF hS (q_fieldAddr fl77_0 (by decide) rfl) rfl (fun a hF => ?_)
  refine n_yes hF rfl ?_
  refine n_q hF hS (q_loadG (o := 0 + 0) (v := .int .i64 b_.st) ty3 rfl hbxb.h (Nat.le_of_ble_eq_true rfl) rfl rfl) rfl (fun a hF => ?_)
  refine n_yes hF rfl ?_
  refine n_q hF hS (q_neI rfl rfl) rfl (fun a hF => ?_)
  refine n_q hF hS (q_pick (b := false) rfl rfl) rfl (fun a hF => ?_)
  refine n_q hF hS (q_move rfl) rfl (fun a hF => ?_)
  refine spn hF (s := 27) rfl (fun hc27 hF => ?_) (fun hc27 hF => ?_)
  refine n_no hF (b := true) rfl rfl rfl (fun a hF => ?_)
  refine n_no hF (b := true) rfl rfl rfl (fun a hF => ?_)
  refine n_no hF (b := true) rfl rfl rfl (fun a hF => ?_)
  refine n_no hF (b := true) rfl rfl rfl (fun a hF => ?_)
  refine n_no hF (b := true) rfl rfl rfl (fun a hF => ?_)
  refine n_q hF hS (q_pick (b := true) rfl rfl) rfl (fun a hF => ?_)
  refine n_q hF hS (q_move rfl) rfl (fun a hF => ?_)
  refine n_no hF (b := true) rfl rfl rfl (fun a hF => ?_)
  refine n_no hF (b := true) rfl rfl rfl (fun a hF => ?_)
  refine n_no hF (b := true) rfl rfl rfl (fun a hF => ?_)
  refine n_no hF (b := true) rfl rfl rfl (fun a hF => ?_)
  refine n_no hF (b := true) rfl rfl rfl (fun a hF => ?_)
  refine n_q hF hS (q_pick (b := true) rfl rfl) rfl (fun a hF => ?_)
  refine hK7 _ _ ?_
  refine c_true hF rfl ?_
  refine c_seq (fun K14 hK14 => ?_)
  refine c_reg ?_
  refine n_q hF hS (q_load0 ty82 rfl (i := 2) rfl (by simp [dc_length, Hd.c_len, En.c_len, Fk.c_len, List.length_replicate, List.length_cons, List.length_nil, List.length_append]) rfl) rfl (fun a hF => ?_)
  refine n_l rfl (fun K15 hK15 => l_store0A ty82 hF hS rfl rfl (i := 2) rfl (by simp [dc_length, Hd.c_len, En.c_len, Fk.c_len, List.length_replicate, List.length_cons, List.length_nil, List.length_append]) (by simp [dc_length, Hd.c_len, En.c_len, Fk.c_len, List.length_replicate, List.length_cons, List.length_nil, List.length_append]) (Fk.c_all1 zFk) (fun a w hF hS => hK15 _ _ ?_))
  refine n_q hF hS (q_assign rfl) rfl (fun a hF => ?_)
  refine hK14 _ _ ?_
  refine c_ret ?_
  repeat (first | refine ret_then ?_ | refine ret_blk ?_)
  refine c_ret' (P := Tryd.prog) (fn := Tryd.f34) rfl hF hS (.cell0 rfl ty82 (i := 2) rfl (by simp [dc_length, Hd.c_len, En.c_len, Fk.c_len, List.length_replicate, List.length_cons, List.length_nil, List.length_append]) rfl (.tmp rfl .nil)) ⟨_, rfl, ?_⟩
  have h9 : cmpO a_ b_ = none := cmpO_no (fun q => by obtain ⟨q1, q2, q3, q4, q5⟩ := q; omega)
  exact ⟨by rw [h9]; rfl, hS.same⟩
  refine n_yes hF rfl ?_
  refine n_q hF hS (q_fieldAddr fl77_1 (by decide) rfl) rfl (fun a hF => ?_)
  refine n_yes hF rfl ?_
  refine n_q hF hS (q_loadG (o := 0 + 1) (v := .int .i64 a_.fo) ty3 rfl hbxa.h (Nat.le_of_ble_eq_true rfl) rfl rfl) rfl (fun a hF => ?_)
  refine n_yes hF rfl ?_
  refine n_q hF hS (q_fieldAddr fl77_1 (by decide) rfl) rfl (fun a hF => ?_)
  refine n_yes hF rfl ?_
  refine n_q hF hS (q_loadG (o := 0 + 1) (v := .int .i64 b_.fo) ty3 rfl hbxb.h (Nat.le_of_ble_eq_true rfl) rfl rfl) rfl (fun a hF => ?_)
  refine n_yes hF rfl ?_
  refine n_q hF hS (q_neI rfl rfl) rfl (fun a hF => ?_)
  refine n_q hF hS (q_pick (b := false) rfl rfl) rfl (fun a hF => ?_)
  refine n_q hF hS (q_move rfl) rfl (fun a hF => ?_)
  refine spn hF (s := 34) rfl (fun hc34 hF => ?_) (fun hc34 hF => ?_)
  refine n_no hF (b := true) rfl rfl rfl (fun a hF => ?_)
  refine n_no hF (b := true) rfl rfl rfl (fun a hF => ?_)
  refine n_no hF (b := true) rfl rfl rfl (fun a hF => ?_)
  refine n_no hF (b := true) rfl rfl rfl (fun a hF => ?_)
  refine n_no hF (b := true) rfl rfl rfl (fun a hF => ?_)
  refine n_q hF hS (q_pick (b := true) rfl rfl) rfl (fun a hF => ?_)
  refine hK7 _ _ ?_
  refine c_true hF rfl ?_
  refine c_seq (fun K16 hK16 => ?_)
  refine c_reg ?_
  refine n_q hF hS (q_load0 ty82 rfl (i := 2) rfl (by simp [dc_length, Hd.c_len, En.c_len, Fk.c_len, List.length_replicate, List.length_cons, List.length_nil, List.length_append]) rfl) rfl (fun a hF => ?_)
  refine n_l rfl (fun K17 hK17 => l_store0A ty82 hF hS rfl rfl (i := 2) rfl (by simp [dc_length, Hd.c_len, En.c_len, Fk.c_len, List.length_replicate, List.length_cons, List.length_nil, List.length_append]) (by simp [dc_length, Hd.c_len, En.c_len, Fk.c_len, List.length_replicate, List.length_cons, List.length_nil, List.length_append]) (Fk.c_all1 zFk) (fun a w hF hS => hK17 _ _ ?_))
  refine n_q hF hS (q_assign rfl) rfl (fun a hF => ?_)
  refine hK16 _ _ ?_
  refine c_ret ?_
  repeat (first | refine ret_then ?_ | refine ret_blk ?_)
  refine c_ret' (P := Tryd.prog) (fn := Tryd.f34) rfl hF hS (.cell0 rfl ty82 (i := 2) rfl (by simp [dc_length, Hd.c_len, En.c_len, Fk.c_len, List.length_replicate, List.length_cons, List.length_nil, List.length_append]) rfl (.tmp rfl .nil)) ⟨_, rfl, ?_⟩
  have h9 : cmpO a_ b_ = none := cmpO_no (fun q => by obtain ⟨q1, q2, q3, q4, q5⟩ := q; omega)
  exact ⟨by rw [h9]; rfl, hS.same⟩
  refine n_yes hF rfl ?_
  refine n_q hF hS (q_fieldAddr fl77_2 (by decide) rfl) rfl (fun a hF => ?_)
  refine n_yes hF rfl ?_
  refine n_q hF hS (q_loadG (o := 0 + 2) (v := .int .i64 a_.pub) ty3 rfl hbxa.h (Nat.le_of_ble_eq_true rfl) rfl rfl) rfl (fun a hF => ?_)
  refine n_yes hF rfl ?_
  refine n_q hF hS (q_fieldAddr fl77_2 (by decide) rfl) rfl (fun a hF => ?_)
  refine n_yes hF rfl ?_
  refine n_q hF hS (q_loadG (o := 0 + 2) (v := .int .i64 b_.pub) ty3 rfl hbxb.h (Nat.le_of_ble_eq_true rfl) rfl rfl) rfl (fun a hF => ?_)
  refine n_yes hF rfl ?_
  refine n_q hF hS (q_neI rfl rfl) rfl (fun a hF => ?_)
  refine n_q hF hS (q_pick (b := false) rfl rfl) rfl (fun a hF => ?_)
  refine hK7 _ _ ?_
  refine spn hF (s := 40) rfl (fun hc40 hF => ?_) (fun hc40 hF => ?_)
  refine c_true hF rfl ?_
  refine c_seq (fun K18 hK18 => ?_)
  refine c_reg ?_
  refine n_q hF hS (q_load0 ty82 rfl (i := 2) rfl (by simp [dc_length, Hd.c_len, En.c_len, Fk.c_len, List.length_replicate, List.length_cons, List.length_nil, List.length_append]) rfl) rfl (fun a hF => ?_)
  refine n_l rfl (fun K19 hK19 => l_store0A ty82 hF hS rfl rfl (i := 2) rfl (by simp [dc_length, Hd.c_len, En.c_len, Fk.c_len, List.length_replicate, List.length_cons, List.length_nil, List.length_append]) (by simp [dc_length, Hd.c_len, En.c_len, Fk.c_len, List.length_replicate, List.length_cons, List.length_nil, List.length_append]) (Fk.c_all1 zFk) (fun a w hF hS => hK19 _ _ ?_))
  refine n_q hF hS (q_assign rfl) rfl (fun a hF => ?_)
  refine hK18 _ _ ?_
  refine c_ret ?_
  repeat (first | refine ret_then ?_ | refine ret_blk ?_)
  refine c_ret' (P := Tryd.prog) (fn := Tryd.f34) rfl hF hS (.cell0 rfl ty82 (i := 2) rfl (by simp [dc_length, Hd.c_len, En.c_len, Fk.c_len, List.length_replicate, List.length_cons, List.length_nil, List.length_append]) rfl (.tmp rfl .nil)) ⟨_, rfl, ?_⟩
  have h9 : cmpO a_ b_ = none := cmpO_no (fun q => by obtain ⟨q1, q2, q3, q4, q5⟩ := q; omega)
  exact ⟨by rw [h9]; rfl, hS.same⟩
  refine c_false hF rfl ?_
  refine wp_skip ?_
  refine hK6 _ _ ?_
  have hok : CmpOK a_ b_ := ⟨tb_iff.1 (by simpa using hc15), tb_iff.1 (by simpa using hc20), by omega, by omega, by omega⟩
  refine c_join (γ := Vw × Vw) hF hS [42, 43, 44, 45, 46, 47, 48, 49, 50] (fun _ => []) (fun g => [⟨b6, g.1.c, 134⟩, ⟨b7, g.2.c, 134⟩, ⟨b3, zFk.c, 82⟩]) (fun g H => VwOK H g.1 ∧ VwOK H g.2 ∧ cmpO a_ b_ = cmpXY g.1 g.2) ?_ ?_
  intro g a w H hle hF hS hJ
  replace hg := hg.mono hle
  replace hoa := hoa.mono hle
  replace hob := hob.mono hle
  replace hbxa := hbxa.mono hle
  replace hbxb := hbxb.mono hle
  obtain ⟨x, y⟩ := g
  obtain ⟨hox, hoy, hcx⟩ := hJ
  try dsimp only at hF hS hox hoy hcx
  refine c_seq (fun K21 hK21 => ?_)
  refine c_seq (fun K22 hK22 => ?_)
  refine c_reg ?_
  refine n_q hF hS (q_load0 ty134 rfl (i := 0) rfl rfl rfl) rfl (fun a hF => ?_)
  refine n_q hF hS (q_fieldAddr fl134_0 (by decide) rfl) rfl (fun a hF => ?_)
  refine n_q hF hS (q_fieldAddr fl77_4 (by decide) rfl) rfl (fun a hF => ?_)
  refine n_q hF hS (q_load ty75 rfl (i := 1) rfl rfl rfl (show ldv false 1 y.c 4 = some (.slice y.ha y.hs.length y.hp) from rfl)) rfl (fun a hF => ?_)
  refine n_l rfl (fun K23 hK23 => l_call en74 hF rfl rfl (accuse_c x y.hs y.ha y.hp hoy.hlen _ _ hS.fz hg hox hoy.rdh) (fun v23 w hR a hF => ?_))
  obtain ⟨rfl, hc⟩ := hR
  replace hS := hS.call0 hc
  refine hK23 _ _ ?_
  refine n_q hF hS (q_move rfl) rfl (fun a hF => ?_)
  refine n_q hF hS (q_extract (i := 0) rfl rfl) rfl (fun a hF => ?_)
  refine n_q hF hS (q_extract (i := 1) rfl rfl) rfl (fun a hF => ?_)
  refine n_l rfl (fun K24 hK24 => l_store0A ty82 hF hS rfl rfl (i := 2) rfl (by simp [dc_length, Hd.c_len, En.c_len, Fk.c_len, List.length_replicate, List.length_cons, List.length_nil, List.length_append]) (by simp [dc_length, Hd.c_len, En.c_len, Fk.c_len, List.length_replicate, List.length_cons, List.length_nil, List.length_append]) (Fk.c_all1 _) (fun a w hF hS => hK24 _ _ ?_))
  refine n_q hF hS (q_assign rfl) rfl (fun a hF => ?_)
  refine hK22 _ _ ?_
  refine c_seq (fun K25 hK25 => ?_)
  refine c_reg ?_
  refine n_q hF hS (q_move rfl) rfl (fun a hF => ?_)
  refine hK25 _ _ ?_
  refine sp hF (s := 59) rfl (fun hc59 hF => ?_) (fun hc59 hF => ?_)
  refine c_true hF rfl ?_
  refine c_seq (fun K26 hK26 => ?_)
  refine c_reg ?_
  refine n_q hF hS (q_load0 ty82 rfl (i := 2) rfl (by simp [dc_length, Hd.c_len, En.c_len, Fk.c_len, List.length_replicate, List.length_cons, List.length_nil, List.length_append]) rfl) rfl (fun a hF => ?_)
  refine n_l rfl (fun K27 hK27 => l_store0A ty82 hF hS rfl rfl (i := 2) rfl (by simp [dc_length, Hd.c_len, En.c_len, Fk.c_len, List.length_replicate, List.length_cons, List.length_nil, List.length_append]) (by simp [dc_length, Hd.c_len, En.c_len, Fk.c_len, List.length_replicate, List.length_cons, List.length_nil, List.length_append]) (Fk.c_all1 _) (fun a w hF hS => hK27 _ _ ?_))
  refine n_q hF hS (q_assign rfl) rfl (fun a hF => ?_)
  refine hK26 _ _ ?_
  refine c_ret ?_
  repeat (first | refine ret_then ?_ | refine ret_blk ?_)
  refine c_ret' (P := Tryd.prog) (fn := Tryd.f34) rfl hF hS (.cell0 rfl ty82 (i := 2) rfl (by simp [dc_length, Hd.c_len, En.c_len, Fk.c_len, List.length_replicate, List.length_cons, List.length_nil, List.length_append]) rfl (.tmp rfl .nil)) ⟨_, rfl, ?_⟩
  rw [cmpXY_1 (by simpa using hc59)] at hcx
  exact ⟨by rw [hcx]; rw [hc59]; rfl, hS.same⟩
  refine c_false hF rfl ?_
  refine wp_skip ?_
  refine hK21 _ _ ?_
  refine c_seq (fun K28 hK28 => ?_)
  refine c_reg ?_
  refine n_q hF hS (q_load0 ty134 rfl (i := 1) rfl rfl rfl) rfl (fun a hF => ?_)
  refine n_q hF hS (q_fieldAddr fl134_0 (by decide) rfl) rfl (fun a hF => ?_)
  refine n_q hF hS (q_fieldAddr fl77_4 (by decide) rfl) rfl (fun a hF => ?_)
  refine n_q hF hS (q_load ty75 rfl (i := 0) rfl rfl rfl (show ldv false 1 x.c 4 = some (.slice x.ha x.hs.length x.hp) from rfl)) rfl (fun a hF => ?_)
  refine n_l rfl (fun K29 hK29 => l_call en74 hF rfl rfl (accuse_c y x.hs x.ha x.hp hox.hlen _ _ hS.fz hg hoy hox.rdh) (fun v29 w hR a hF => ?_))
  obtain ⟨rfl, hc⟩ := hR
  replace hS := hS.call0 hc
  refine hK29 _ _ ?_
  refine n_q hF hS (q_extract (i := 0) rfl rfl) rfl (fun a hF => ?_)
  refine n_q hF hS (q_extract (i := 1) rfl rfl) rfl (fun a hF => ?_)
  refine n_l rfl (fun K30 hK30 => l_store0A ty82 hF hS rfl rfl (i := 2) rfl (by simp [dc_length, Hd.c_len, En.c_len, Fk.c_len, List.length_replicate, List.length_cons, List.length_nil, List.length_append]) (by simp [dc_length, Hd.c_len, En.c_len, Fk.c_len, List.length_replicate, List.length_cons, List.length_nil, List.length_append]) (Fk.c_all1 _) (fun a w hF hS => hK30 _ _ ?_))
  refine n_q hF hS (q_assign rfl) rfl (fun a hF => ?_)
  refine hK28 _ _ ?_
  refine c_ret ?_
  repeat (first | refine ret_then ?_ | refine ret_blk ?_)
  refine c_ret' (P := Tryd.prog) (fn := Tryd.f34) rfl hF hS (.cell0 rfl ty82 (i := 2) rfl (by simp [dc_length, Hd.c_len, En.c_len, Fk.c_len, List.length_replicate, List.length_cons, List.length_nil, List.length_append]) rfl (.tmp rfl .nil)) ⟨_, rfl, ?_⟩
  rw [cmpXY_2 (by simpa using hc59)] at hcx
  exact ⟨by rw [hcx]; rfl, hS.same⟩
  intro K20 hK20
  have hj20 := hS.rl
  refine c_seq (fun K31 hK31 => ?_)
  refine c_reg ?_
  refine n_q hF hS (q_fieldAddr fl77_3 (by decide) rfl) rfl (fun a hF => ?_)
  refine n_q hF hS (q_loadG (o := 0 + 3) (v := .slice b_.da b_.ds.length b_.dp) ty45 rfl hbxb.h (Nat.le_of_ble_eq_true rfl) rfl rfl) rfl (fun a hF => ?_)
  refine n_q hF hS (q_len Tryd.underlying45 rfl rfl) rfl (fun a hF => ?_)
  refine n_q hF hS (q_fieldAddr fl77_3 (by decide) rfl) rfl (fun a hF => ?_)
  refine n_q hF hS (q_loadG (o := 0 + 3) (v := .slice a_.da a_.ds.length a_.dp) ty45 rfl hbxa.h (Nat.le_of_ble_eq_true rfl) rfl rfl) rfl (fun a hF => ?_)
  refine n_q hF hS (q_len Tryd.underlying45 rfl rfl) rfl (fun a hF => ?_)
  refine n_q hF hS (q_gtr rfl rfl) rfl (fun a hF => ?_)
  refine hK31 _ _ ?_
  refine spd hF (s := 48) rfl (fun hc48 hF => ?_) (fun hc48 hF => ?_)
  refine c_true hF rfl ?_
  refine c_reg ?_
  refine n_q hF hS (q_load0 ty134 rfl (i := 1) rfl rfl rfl) rfl (fun a hF => ?_)
  refine n_q hF hS (q_load0 ty134 rfl (i := 0) rfl rfl rfl) rfl (fun a hF => ?_)
  refine n_l rfl (fun K32 hK32 => l_store0A ty134 hF hS rfl rfl (i := 0) rfl rfl rfl rfl (fun a w hF hS => hK32 _ _ ?_))
  refine n_l rfl (fun K33 hK33 => l_store0A ty134 hF hS rfl rfl (i := 1) rfl rfl rfl rfl (fun a w hF hS => hK33 _ _ ?_))
  exact hK20 ((b_, a_)) _ _ _ hj20 (hF.meet trivial (by repeat first | exact Ext.remr _ _ | refine Ext.push rfl ?_ | refine Ext.rem' rfl ?_)) hS ⟨hob, hoa, cmpO_ba hok (by omega)⟩
  refine c_false hF rfl ?_
  refine wp_skip ?_
  exact hK20 ((a_, b_)) _ _ _ hj20 (hF.meet trivial (by repeat first | exact Ext.remr _ _ | refine Ext.push rfl ?_ | refine Ext.rem' rfl ?_)) hS ⟨hoa, hob, cmpO_ab hok (by omega)⟩
  intro K5 hK5
  have hj5 := hS.rl
  refine r_start (fun _ => []) [] mo hS (fun w hS => ?_)
  refine r_q (i := 0) rfl rfl hF (hS.lose (List.nil_sublist _)) (q_loadG (o := 0) (v := .agg a_.c.toArray) ty77 rfl hbxa.h (Nat.le_of_ble_eq_true rfl) rfl rfl) rfl (fun a hF => ?_)
  refine r_q (i := 1) rfl rfl hF (hS.lose (List.nil_sublist _)) (q_build (P := Tryd.prog) (T := 134) (cs := [_, _, _, _, _]) zr134 pl134 rfl (by first | rfl | simp [bld, spl, dc_length, Hd.c_len, En.c_len, Fk.c_len, List.length_replicate, List.length_cons, List.length_nil, List.length_append])) rfl (fun a hF => ?_)
  refine r_q (i := 2) rfl rfl hF (hS.lose (List.nil_sublist _)) (q_loadG (o := 0) (v := .agg b_.c.toArray) ty77 rfl hbxb.h (Nat.le_of_ble_eq_true rfl) rfl rfl) rfl (fun a hF => ?_)
  refine r_q (i := 3) rfl rfl hF (hS.lose (List.nil_sublist _)) (q_build (P := Tryd.prog) (T := 134) (cs := [_, _, _, _, _]) zr134 pl134 rfl (by first | rfl | simp [bld, spl, dc_length, Hd.c_len, En.c_len, Fk.c_len, List.length_replicate, List.length_cons, List.length_nil, List.length_append])) rfl (fun a hF => ?_)
  refine r_two (i := 4) (j := 5) (by kernel_rfl) ?_ ?_
  refine r_li rfl rfl (fun K34 hK34 => l_alloc hF hS zr134 rfl (fun a w b4 hF hS => hK34 _ _ _ (hS.lose (List.nil_sublist _)) (fun _ h => h) ?_))
  refine r_one (i := 5) (by kernel_rfl) ?_
  refine r_li rfl rfl (fun K35 hK35 => l_alloc hF hS zr134 rfl (fun a w b5 hF hS => hK35 _ _ _ (hS.lose (List.nil_sublist _)) (fun _ h => h) ?_))
  refine r_one (i := 6) (by kernel_rfl) ?_
  refine r_li rfl rfl (fun K36 hK36 => l_store0A ty134 hF hS rfl rfl (i := 1) rfl rfl rfl rfl (fun a w hF hS => hK36 _ _ _ (hS.lose (List.nil_sublist _)) (fun _ h => h) ?_))
  refine r_one (i := 7) (by kernel_rfl) ?_
  refine r_li rfl rfl (fun K37 hK37 => l_store0A ty134 hF hS rfl rfl (i := 0) rfl rfl rfl rfl (fun a w hF hS => hK37 _ _ _ (hS.lose (List.nil_sublist _)) (fun _ h => h) ?_))
  refine r_done (by kernel_rfl) ?_
  exact hK5 ((b4, b5)) _ _ _ hj5 (hF.meet ⟨rfl, rfl, trivial⟩ (by repeat first | exact Ext.remr _ _ | refine Ext.push rfl ?_ | refine Ext.rem' rfl ?_)) (St.perm (L := [_, _, _]) (L' := [_, _, _]) hS (List.Perm.swap _ _ _)) trivial
  refine r_li rfl rfl (fun K38 hK38 => l_alloc hF hS zr134 rfl (fun a w b6 hF hS => hK38 _ _ _ (hS.lose (List.nil_sublist _)) (fun _ h => h) ?_))
  refine r_one (i := 4) (by kernel_rfl) ?_
  refine r_li rfl rfl (fun K39 hK39 => l_alloc hF hS zr134 rfl (fun a w b7 hF hS => hK39 _ _ _ (hS.lose (List.nil_sublist _)) (fun _ h => h) ?_))
  refine r_one (i := 6) (by kernel_rfl) ?_
  refine r_li rfl rfl (fun K40 hK40 => l_store0A ty134 hF hS rfl rfl (i := 0) rfl rfl rfl rfl (fun a w hF hS => hK40 _ _ _ (hS.lose (List.nil_sublist _)) (fun _ h => h) ?_))
  refine r_one (i := 7) (by kernel_rfl) ?_
  refine r_li rfl rfl (fun K41 hK41 => l_store0A ty134 hF hS rfl rfl (i := 1) rfl rfl rfl rfl (fun a w hF hS => hK41 _ _ _ (hS.lose (List.nil_sublist _)) (fun _ h => h) ?_))
  refine r_done (by kernel_rfl) ?_
  exact hK5 ((b7, b6)) _ _ _ hj5 (hF.meet ⟨rfl, rfl, trivial⟩ (by repeat first | exact Ext.remr _ _ | refine Ext.push rfl ?_ | refine Ext.rem' rfl ?_)) hS trivial
end Go.Proofs.YtneokajhmonpaaaDoor

namespace Go.Proofs.YtneokajhmonpaaaDoor
open Go Go.RowKit Go.W
set_option maxRecDepth 10000
open Fx

theorem acc1_c (h : Hd) (n : Int) (hb : 0 ≤ h.no ∧ h.no ≤ 65536) (hn : 0 ≤ n ∧ n ≤ 65536) (w : World) (H : Froz) (hz : Fz H w) : CallsR Tryd.prog 79 [.agg h.c.toArray, .int .i64 n] w fun v w' => v = .int .i64 (h.no - n) ∧ St ⟨w, H, []⟩ H [] w' := by
  refine calls_start Tryd.func79 rfl Tryd.ntmps79 rfl (fun a hF => ?_)
  have hS := St.start w H hz
  refine c_seq (fun K1 hK1 => ?_)
  refine c_reg ?_
  refine n_l rfl (fun K2 hK2 => l_boxA hF hS rfl rfl (fun a w b1 hF hS => hK2 _ _ ?_))
  refine n_q hF hS (q_assign rfl) rfl (fun a hF => ?_)
  refine hK1 _ _ ?_
  refine c_seq (fun K3 hK3 => ?_)
  refine c_reg ?_
  refine n_q hF hS (q_fieldAddr fl39_2 (by decide) rfl) rfl (fun a hF => ?_)
  refine n_q hF hS (q_load ty3 rfl (i := 0) rfl (by simp [dc_length, Hd.c_len, En.c_len, Fk.c_len, List.length_replicate, List.length_cons, List.length_nil, List.length_append]) rfl (show ldv false 1 h.c 2 = some (.int .i64 h.no) from rfl)) rfl (fun a hF => ?_)
  refine n_q hF hS (q_move rfl) rfl (fun a hF => ?_)
  refine n_q hF hS (q_subI rfl rfl (by omega)) rfl (fun a hF => ?_)
  refine n_q hF hS (q_assign rfl) rfl (fun a hF => ?_)
  refine hK3 _ _ ?_
  refine c_ret ?_
  repeat (first | refine ret_then ?_ | refine ret_blk ?_)
  refine c_ret' (P := Tryd.prog) (fn := Tryd.f79) rfl hF hS (.tmp rfl .nil) ⟨_, rfl, ?_⟩
  exact ⟨rfl, hS.same⟩

theorem cloneH_c (es : List Hd) (a0 : Option Addr) (c : Nat) (hn : es.length ≤ 1000000) (w : World) (H : Froz) (hz : Fz H w) (hr : RdS H a0 es.length 37 (hdE es).flatten) :
    CallsR Tryd.prog 81 [.slice a0 es.length c] w fun v w' => ∃ ad cp Lx, v = .slice ad es.length cp ∧ OwS 39 37 (.slice ad es.length cp) es.length (hdE es).flatten Lx ∧ St ⟨w, H, []⟩ H Lx w' := by
  refine calls_start Tryd.func81 rfl Tryd.ntmps81 rfl (fun a hF => ?_)
  have hS := St.start w H hz
  refine c_seq (fun K1 hK1 => ?_)
  refine c_reg ?_
  refine n_q hF hS (q_assign rfl) rfl (fun a hF => ?_)
  refine hK1 _ _ ?_
  refine c_seq (fun K2 hK2 => ?_)
  refine c_seq (fun K3 hK3 => ?_)
  refine c_reg ?_
  refine n_q hF hS (q_move rfl) rfl (fun a hF => ?_)
  refine n_q hF hS (q_eqNilS Tryd.underlying75 rfl rfl) rfl (fun a hF => ?_)
  refine hK3 _ _ ?_
  refine sp hF (s := 4) rfl (fun hc4 hF => ?_) (fun hc4 hF => ?_)
  refine c_true hF rfl ?_
  refine c_seq (fun K4 hK4 => ?_)
  refine c_reg ?_
  refine n_q hF hS (q_assign rfl) rfl (fun a hF => ?_)
  refine hK4 _ _ ?_
  refine c_ret ?_
  repeat (first | refine ret_then ?_ | refine ret_blk ?_)
  refine c_ret' (P := Tryd.prog) (fn := Tryd.f81) rfl hF hS (.tmp rfl .nil) ⟨_, rfl, ?_⟩
  have ha := isNone_some hc4
  subst ha
  have h0 := RdS.none_len hr
  refine ⟨none, 0, [], ?_, OwS_empty h0 (RdS.len hr), hS⟩
  show Value.slice none 0 0 = _
  rw [h0]
  refine c_false hF rfl ?_
  refine wp_skip ?_
  refine hK2 _ _ ?_
  refine c_seq (fun K5 hK5 => ?_)
  refine c_reg ?_
  refine n_l rfl (fun K6 hK6 => l_buildO (els := []) Tryd.underlying75 ty39 zr39 hF hS rfl rfl rfl (by simp [Value.cells, dc_length, Hd.c_len, En.c_len, Fk.c_len, List.length_replicate, List.length_cons, List.length_nil, List.length_append]) rfl rfl rfl (fun a w b1 hF hS => hK6 _ _ ?_))
  refine n_q hF hS (q_move rfl) rfl (fun a hF => ?_)
  refine n_l rfl (fun K7 hK7 => l_append (L := []) Tryd.underlying75 ty39 zr39 bt39 hF hS rfl rfl (OwS.row0 _ _ _) (.slice Tryd.underlying75 hr (hdE_all1 _)) (by omega) (by simp only [maxLen]; omega) rfl rfl (fun a w c3_2 ad3_2 Lx3_2 ho3_2 hF hS => hK7 _ _ ?_))
  rw [Nat.zero_add, List.nil_append] at ho3_2
  rw [Nat.zero_add] at hF
  rw [List.append_nil] at hS
  refine n_q hF hS (q_assign rfl) rfl (fun a hF => ?_)
  refine hK5 _ _ ?_
  refine c_ret ?_
  repeat (first | refine ret_then ?_ | refine ret_blk ?_)
  refine c_ret' (P := Tryd.prog) (fn := Tryd.f81) rfl hF hS (.tmp rfl .nil) ⟨_, rfl, ?_⟩
  exact ⟨_, _, _, rfl, ho3_2, hS⟩

theorem bsH_c (hs : List Hd) (ah : Option Addr) (ch : Nat) (n : Int) (hlen : hs.length ≤ 1000000) (hb : ∀ h ∈ hs, 0 ≤ h.no ∧ h.no ≤ 65536) (hn : 0 ≤ n ∧ n ≤ 65536) (hsr : SrtH hs) (w : World) (H : Froz) (hz : Fz H w) (hr : RdL H ah 37 (hdE hs)) :
    CallsR Tryd.prog 78 [.slice ah hs.length ch, .int .i64 n, .func (.func 79) #[] #[]] w fun v w' => ∃ p : Nat, v = .tuple #[.int .i64 (p : Int), .bool (atH hs n p)] ∧ PosH hs n p ∧ St ⟨w, H, []⟩ H [] w' := by
  refine calls_start Tryd.func78 rfl Tryd.ntmps78 rfl (fun a hF => ?_)
  have hS := St.start w H hz
  refine c_seq (fun K1 hK1 => ?_)
  refine c_reg ?_
  refine n_q hF hS (q_assign rfl) rfl (fun a hF => ?_)
  refine n_q hF hS (q_assign rfl) rfl (fun a hF => ?_)
  refine hK1 _ _ ?_
  refine c_seq (fun K2 hK2 => ?_)
  refine c_reg ?_
  refine n_q hF hS (q_move rfl) rfl (fun a hF => ?_)
  refine n_q hF hS (q_len Tryd.underlying75 rfl rfl) rfl (fun a hF => ?_)
  refine n_q hF hS (q_assign rfl) rfl (fun a hF => ?_)
  refine hK2 _ _ ?_
  refine c_seq (fun K3 hK3 => ?_)
  refine c_reg ?_
  refine n_q hF hS (q_move rfl) rfl (fun a hF => ?_)
  refine n_q hF hS (q_assign rfl) rfl (fun a hF => ?_)
  refine n_q hF hS (q_assign rfl) rfl (fun a hF => ?_)
  refine hK3 _ _ ?_
  refine c_seq (fun K4 hK4 => ?_)
  refine c_block ?_
  refine c_loopS hF [9, 10, 11, 15, 16, 17, 18, 19, 20, 21, 22, 23, 24, 25, 26, 27, 28, 29, 30, 31, 32, 33, 34]
    (fun g : Nat × Nat => [(9, .int .i64 (g.1 : Int)), (10, .int .i64 (g.2 : Int))])
    (fun _ => [])
    (fun g _ => g.1 ≤ g.2 ∧ g.2 ≤ hs.length ∧ (∀ (j : Nat) (h : Hd), j < g.1 → hs[j]? = some h → h.no < n) ∧ (∀ (j : Nat) (h : Hd), g.2 ≤ j → hs[j]? = some h → n ≤ h.no))
    (fun g => g.2 - g.1) ((0, hs.length)) ⟨rfl, rfl, trivial⟩ (hS) (⟨Nat.zero_le _, Nat.le_refl _, fun j l h => absurd h (Nat.not_lt_zero _), fun j l h hl => absurd (List.getElem?_eq_some_iff.1 hl).1 (by show ¬ j < hs.length; have h9 : hs.length ≤ j := h; omega)⟩) ?_
  clear hF hS
  intro g a w H hle hF hS hJ
  replace hr := hr.mono hle
  have hl0 := Le.refl H
  obtain ⟨i, j⟩ := g
  obtain ⟨hij, hjn, hlo, hhi⟩ := hJ
  try dsimp only at hF hS hij hjn hlo hhi
  refine c_seq (fun K5 hK5 => ?_)
  refine c_seq (fun K6 hK6 => ?_)
  refine c_reg ?_
  refine n_q hF hS (q_move rfl) rfl (fun a hF => ?_)
  refine n_q hF hS (q_move rfl) rfl (fun a hF => ?_)
  refine n_q hF hS (q_lss rfl rfl) rfl (fun a hF => ?_)
  refine hK6 _ _ ?_
  refine spd hF (s := 17) rfl (fun hc17 hF => ?_) (fun hc17 hF => ?_)
  refine c_true hF rfl ?_
  refine wp_skip ?_
  refine hK5 _ _ ?_
  refine c_block ?_
  refine c_seq (fun K7 hK7 => ?_)
  refine c_reg ?_
  refine n_q hF hS (q_move rfl) rfl (fun a hF => ?_)
  refine n_q hF hS (q_move rfl) rfl (fun a hF => ?_)
  refine n_q hF hS (q_addI rfl rfl (by omega)) rfl (fun a hF => ?_)
  refine n_q hF hS (q_cv64 (a := i + j) Tryd.underlying3 Tryd.underlying178 rfl (by omega)) rfl (fun a hF => ?_)
  refine n_q hF hS (q_shrC (a := i + j) (m := 2) rfl rfl (by decide) rfl) rfl (fun a hF => ?_)
  refine n_q hF hS (q_cvI Tryd.underlying178 Tryd.underlying3 rfl (by omega)) rfl (fun a hF => ?_)
  refine n_q hF hS (q_assign rfl) rfl (fun a hF => ?_)
  refine hK7 _ _ ?_
  refine c_seq (fun K8 hK8 => ?_)
  refine c_reg ?_
  have hlt : (i + j) / 2 < hs.length := by omega
  obtain ⟨h, hhd⟩ : ∃ q, q = hs[(i + j) / 2] := ⟨_, rfl⟩
  have hh? : hs[(i + j) / 2]? = some h := by rw [hhd]; simp [hlt]
  have hel := hd_el hh?
  have hbd := hb h (List.mem_of_getElem? hh?)
  refine n_q hF hS (q_move rfl) rfl (fun a hF => ?_)
  refine n_q hF hS (q_move rfl) rfl (fun a hF => ?_)
  refine n_q hF hS (q_move rfl) rfl (fun a hF => ?_)
  refine n_q hF hS (q_indexAddrS Tryd.underlying75 ty39 rfl rfl (by omega) (hr.some (by simp only [hdE, List.length_map]; omega))) rfl (fun a hF => ?_)
  refine n_q hF hS (q_loadL0 (i := (i + j) / 2) (v := .agg h.c.toArray) ty39 rfl hr hel (by decide) rfl (Hd.ld_all h)) rfl (fun a hF => ?_)
  refine n_q hF hS (q_move rfl) rfl (fun a hF => ?_)
  refine n_l rfl (fun K9 hK9 => l_callv en79 hF rfl rfl rfl (acc1_c h n hbd hn _ _ hS.fz) (fun v9 w hR a hF => ?_))
  obtain ⟨rfl, hc⟩ := hR
  replace hS := hS.call0 hc
  refine hK9 _ _ ?_
  refine n_q hF hS (q_lss rfl rfl) rfl (fun a hF => ?_)
  refine hK8 _ _ ?_
  refine spd hF (s := 31) rfl (fun hc31 hF => ?_) (fun hc31 hF => ?_)
  refine c_true hF rfl ?_
  refine c_reg ?_
  refine n_q hF hS (q_move rfl) rfl (fun a hF => ?_)
  refine n_q hF hS (q_addI rfl rfl (by omega)) rfl (fun a hF => ?_)
  refine n_q hF hS (q_assign rfl) rfl (fun a hF => ?_)
  exact ⟨((i + j) / 2 + 1, j), _, (by show j - ((i + j) / 2 + 1) < j - i; omega), hl0, hF.back ⟨rfl, rfl, trivial⟩ rfl (by repeat first | exact Ext.refl _ _ | refine Ext.rem' rfl ?_ | refine Ext.push rfl ?_), hS.lose (.refl _), ⟨by show (i + j) / 2 + 1 ≤ j; omega, hjn, loH_step hsr hh? (by omega), hhi⟩⟩
  refine c_false hF rfl ?_
  refine c_reg ?_
  refine n_q hF hS (q_move rfl) rfl (fun a hF => ?_)
  refine n_q hF hS (q_assign rfl) rfl (fun a hF => ?_)
  exact ⟨(i, (i + j) / 2), _, (by show (i + j) / 2 - i < j - i; omega), hl0, hF.back ⟨rfl, rfl, trivial⟩ rfl (by repeat first | exact Ext.refl _ _ | refine Ext.rem' rfl ?_ | refine Ext.push rfl ?_), hS.lose (.refl _), ⟨by show i ≤ (i + j) / 2; omega, by show (i + j) / 2 ≤ hs.length; omega, hlo, hiH_step hsr hh? (by omega)⟩⟩
  refine c_false hF rfl ?_
  refine c_exit ?_
  refine hK4 _ _ ?_
  refine c_seq (fun K10 hK10 => ?_)
  refine c_reg ?_
  refine n_q hF hS (q_move rfl) rfl (fun a hF => ?_)
  refine n_q hF hS (q_move rfl) rfl (fun a hF => ?_)
  refine n_q hF hS (q_move rfl) rfl (fun a hF => ?_)
  refine n_q hF hS (q_lss rfl rfl) rfl (fun a hF => ?_)
  refine n_q hF hS (q_move rfl) rfl (fun a hF => ?_)
  refine spd hF (s := 39) rfl (fun hc39 hF => ?_) (fun hc39 hF => ?_)
  refine n_yes hF rfl ?_
  refine n_q hF hS (q_move rfl) rfl (fun a hF => ?_)
  refine n_yes hF rfl ?_
  refine n_q hF hS (q_move rfl) rfl (fun a hF => ?_)
  refine n_yes hF rfl ?_
  refine n_q hF hS (q_move rfl) rfl (fun a hF => ?_)
  refine n_yes hF rfl ?_
  refine n_q hF hS (q_indexAddrS Tryd.underlying75 ty39 rfl rfl (by omega) (hr.some (by simp only [hdE, List.length_map]; omega))) rfl (fun a hF => ?_)
  refine n_yes hF rfl ?_
  have hlt : i < hs.length := by omega
  obtain ⟨h, hhd⟩ : ∃ q, q = hs[i] := ⟨_, rfl⟩
  have hh? : hs[i]? = some h := by rw [hhd]; simp [hlt]
  have hel := hd_el hh?
  have hbd := hb h (List.mem_of_getElem? hh?)
  refine n_q hF hS (q_loadL0 (i := i) (v := .agg h.c.toArray) ty39 rfl hr hel (by decide) rfl (Hd.ld_all h)) rfl (fun a hF => ?_)
  refine n_yes hF rfl ?_
  refine n_q hF hS (q_move rfl) rfl (fun a hF => ?_)
  refine n_yes hF rfl ?_
  refine n_l rfl (fun K11 hK11 => l_callv en79 hF rfl rfl rfl (acc1_c h n hbd hn _ _ hS.fz) (fun v11 w hR a hF => ?_))
  obtain ⟨rfl, hc⟩ := hR
  replace hS := hS.call0 hc
  refine hK11 _ _ ?_
  refine n_yes hF rfl ?_
  refine n_q hF hS (q_eqI rfl rfl) rfl (fun a hF => ?_)
  refine n_q hF hS (q_pick (b := true) rfl rfl) rfl (fun a hF => ?_)
  refine n_q hF hS (q_assign rfl) rfl (fun a hF => ?_)
  refine n_q hF hS (q_assign rfl) rfl (fun a hF => ?_)
  refine hK10 _ _ ?_
  refine c_ret ?_
  repeat (first | refine ret_then ?_ | refine ret_blk ?_)
  refine c_ret' (P := Tryd.prog) (fn := Tryd.f78) rfl hF hS (.tmp rfl (.tmp rfl .nil)) ⟨_, rfl, ?_⟩
  have hje : j = i := by omega
  subst hje
  refine ⟨j, ?_, ⟨hjn, hlo, hhi⟩, hS.same⟩
  have ha : atH hs n j = decide (h.no - n = 0) := by unfold atH; rw [hh?]; exact decide_eq_decide.2 ⟨fun q => by omega, fun q => by omega⟩
  rw [ha]; rfl
  refine n_no hF (b := false) rfl rfl rfl (fun a hF => ?_)
  refine n_no hF (b := false) rfl rfl rfl (fun a hF => ?_)
  refine n_no hF (b := false) rfl rfl rfl (fun a hF => ?_)
  refine n_no hF (b := false) rfl rfl rfl (fun a hF => ?_)
  refine n_no hF (b := false) rfl rfl rfl (fun a hF => ?_)
  refine n_no hF (b := false) rfl rfl rfl (fun a hF => ?_)
  refine n_no hF (b := false) rfl rfl rfl (fun a hF => ?_)
  refine n_no hF (b := false) rfl rfl rfl (fun a hF => ?_)
  refine n_q hF hS (q_pick (b := false) rfl rfl) rfl (fun a hF => ?_)
  refine n_q hF hS (q_assign rfl) rfl (fun a hF => ?_)
  refine n_q hF hS (q_assign rfl) rfl (fun a hF => ?_)
  refine hK10 _ _ ?_
  refine c_ret ?_
  repeat (first | refine ret_then ?_ | refine ret_blk ?_)
  refine c_ret' (P := Tryd.prog) (fn := Tryd.f78) rfl hF hS (.tmp rfl (.tmp rfl .nil)) ⟨_, rfl, ?_⟩
  have hje : j = i := by omega
  subst hje
  refine ⟨j, ?_, ⟨hjn, hlo, hhi⟩, hS.same⟩
  have ha : atH hs n j = false := by unfold atH; rw [List.getElem?_eq_none (by omega)]
  rw [ha]; rfl

theorem InsertH_c (ls : List Hd) (l : Hd) (i : Nat) (hi : i ≤ ls.length) (hn : ls.length ≤ 1000000) (ad : Option Addr) (cp : Nat) (Lx : List Blk) (hO : OwS 39 37 (.slice ad ls.length cp) ls.length (hdE ls).flatten Lx) (bv : Nat) (w : World) (H : Froz) (hh : Hand w H Lx) (hv : H bv = some (.cells l.c.toArray 39 (0, 0))) (hrv : RdS H (some ⟨bv, 0, none⟩) 1 37 l.c) :
    CallsR Tryd.prog 80 [.slice ad ls.length cp, .int .i64 (i : Int), .slice (some ⟨bv, 0, none⟩) 1 1] w fun v w' => ∃ ad' cp' Lx', v = .slice ad' (ls.length + 1) cp' ∧ OwS 39 37 (.slice ad' (ls.length + 1) cp') (ls.length + 1) (hdE (ls.insertIdx i l)).flatten Lx' ∧ St ⟨w, H, Lx.map (·.b)⟩ H Lx' w' := by
  refine calls_start Tryd.func80 rfl Tryd.ntmps80 rfl (fun a hF => ?_)
  have hS := (St.startG hh).nilR
  have hcap := hO.le
  refine c_seq (fun K1 hK1 => ?_)
  refine c_reg ?_
  refine n_q hF hS (q_assign rfl) rfl (fun a hF => ?_)
  refine hK1 _ _ ?_
  refine c_seq (fun K2 hK2 => ?_)
  refine c_reg ?_
  refine n_q hF hS (q_move rfl) rfl (fun a hF => ?_)
  refine n_q hF hS (q_move rfl) rfl (fun a hF => ?_)
  refine n_q hF hS (q_sliceF Tryd.underlying75 ty39 rfl rfl (by omega)) rfl (fun a hF => ?_)
  refine hK2 _ _ ?_
  refine c_seq (fun K3 hK3 => ?_)
  refine c_reg ?_
  refine n_q hF hS (q_move rfl) rfl (fun a hF => ?_)
  refine n_q hF hS (q_len Tryd.underlying75 rfl rfl) rfl (fun a hF => ?_)
  refine n_q hF hS (q_assign rfl) rfl (fun a hF => ?_)
  refine hK3 _ _ ?_
  refine c_seq (fun K4 hK4 => ?_)
  refine c_seq (fun K5 hK5 => ?_)
  refine c_reg ?_
  refine n_q hF hS (q_move rfl) rfl (fun a hF => ?_)
  refine n_q hF hS (q_eqI rfl rfl) rfl (fun a hF => ?_)
  refine hK5 _ _ ?_
  refine spF hF (s := 16) rfl (by decide) (fun hF => ?_)
  refine c_false hF rfl ?_
  refine wp_skip ?_
  refine hK4 _ _ ?_
  refine c_seq (fun K6 hK6 => ?_)
  refine c_reg ?_
  refine n_q hF hS (q_move rfl) rfl (fun a hF => ?_)
  refine n_q hF hS (q_len Tryd.underlying75 rfl rfl) rfl (fun a hF => ?_)
  refine n_q hF hS (q_assign rfl) rfl (fun a hF => ?_)
  refine hK6 _ _ ?_
  refine c_seq (fun K7 hK7 => ?_)
  refine c_seq (fun K8 hK8 => ?_)
  refine c_reg ?_
  refine n_q hF hS (q_move rfl) rfl (fun a hF => ?_)
  refine n_q hF hS (q_move rfl) rfl (fun a hF => ?_)
  refine n_q hF hS (q_eqI rfl rfl) rfl (fun a hF => ?_)
  refine hK8 _ _ ?_
  refine spd hF (s := 22) rfl (fun hc22 hF => ?_) (fun hc22 hF => ?_)
  refine c_true hF rfl ?_
  refine c_seq (fun K9 hK9 => ?_)
  refine c_reg ?_
  refine n_q hF hS (q_move rfl) rfl (fun a hF => ?_)
  refine n_q hF hS (q_move rfl) rfl (fun a hF => ?_)
  refine n_l rfl (fun K10 hK10 => l_append (L := []) Tryd.underlying75 ty39 zr39 bt39 hF hS rfl rfl (hO) (.slice Tryd.underlying75 hrv (Hd.c_all1 _)) (by omega) (by simp only [maxLen]; omega) rfl rfl (fun a w c7_2 ad7_2 Lx7_2 ho7_2 hF hS => hK10 _ _ ?_))
  refine n_q hF hS (q_assign rfl) rfl (fun a hF => ?_)
  refine hK9 _ _ ?_
  refine c_ret ?_
  repeat (first | refine ret_then ?_ | refine ret_blk ?_)
  refine c_ret' (P := Tryd.prog) (fn := Tryd.f80) rfl hF hS (.tmp rfl .nil) ⟨_, rfl, ?_⟩
  have hie : i = ls.length := by omega
  have hcells : (hdE (ls.insertIdx i l)).flatten = (hdE ls).flatten ++ l.c := by rw [hdE_insert ls l hi, hie, List.take_of_length_le (by rw [hdE_len]; exact Nat.le_refl _), List.drop_of_length_le (by rw [hdE_len]; exact Nat.le_refl _), List.append_nil]
  rw [List.append_nil] at hS
  exact ⟨ad7_2, c7_2, Lx7_2, rfl, by rw [hcells]; exact ho7_2, hS⟩
  refine c_false hF rfl ?_
  refine wp_skip ?_
  refine hK7 _ _ ?_
  refine c_seq (fun K11 hK11 => ?_)
  refine c_seq (fun K12 hK12 => ?_)
  refine c_reg ?_
  have hlt : i < ls.length := by omega
  obtain ⟨fL, hf0, hfO, hpos⟩ := hO.famH
  obtain ⟨bb, tail, hab, hfb⟩ := hpos (by omega)
  subst hab
  have hcl := OwS.row_len (hfb ls ▸ hfO ls rfl)
  rw [← hf0, hfb] at hS
  refine n_q hF hS (q_move rfl) rfl (fun a hF => ?_)
  refine n_q hF hS (q_move rfl) rfl (fun a hF => ?_)
  refine n_q hF hS (q_addI rfl rfl (by omega)) rfl (fun a hF => ?_)
  refine n_q hF hS (q_move rfl) rfl (fun a hF => ?_)
  refine n_q hF hS (q_cap Tryd.underlying75 rfl rfl) rfl (fun a hF => ?_)
  refine n_q hF hS (q_gtr rfl rfl) rfl (fun a hF => ?_)
  refine hK12 _ _ ?_
  refine spd hF (s := 31) rfl (fun hc31 hF => ?_) (fun hc31 hF => ?_)
  refine c_true hF rfl ?_
  refine c_seq (fun K13 hK13 => ?_)
  refine c_reg ?_
  refine n_q hF hS (q_move rfl) rfl (fun a hF => ?_)
  refine n_q hF hS (q_move rfl) rfl (fun a hF => ?_)
  refine n_q hF hS (q_sliceP Tryd.underlying75 ty39 rfl rfl (by omega)) rfl (fun a hF => ?_)
  refine n_q hF hS (q_move rfl) rfl (fun a hF => ?_)
  refine n_q hF hS (q_move rfl) rfl (fun a hF => ?_)
  refine n_q hF hS (q_addI rfl rfl (by omega)) rfl (fun a hF => ?_)
  refine n_q hF hS (q_move rfl) rfl (fun a hF => ?_)
  refine n_q hF hS (q_subI rfl rfl (by omega)) rfl (fun a hF => ?_)
  refine n_l rfl (fun K14 hK14 => l_appendZO (m := ls.length + 1 - i) (i := i) (j := 0) Tryd.underlying75 Tryd.underlying3 ty39 zr39 bt39 hF hS rfl rfl (by omega) rfl (by rw [List.length_append, hdE_len]; omega) (by omega) (by omega) (by omega) (by simp only [maxLen]; omega) rfl (by decide) rfl (fun a w b9 c9 t9 ht9 hm9 hc9 hF hS => hK14 _ _ ?_))
  refine n_q hF hS (q_assign rfl) rfl (fun a hF => ?_)
  refine hK13 _ _ ?_
  refine c_seq (fun K15 hK15 => ?_)
  refine c_reg ?_
  refine n_q hF hS (q_move rfl) rfl (fun a hF => ?_)
  refine n_q hF hS (q_move rfl) rfl (fun a hF => ?_)
  refine n_q hF hS (q_sliceF Tryd.underlying75 ty39 rfl rfl (by omega)) rfl (fun a hF => ?_)
  refine n_q hF hS (q_move rfl) rfl (fun a hF => ?_)
  refine rw_ hF (s := 43) (u := .slice (some ⟨b9, 0 + i * 37, none⟩) (ls.length + 1 - i) (c9 - i)) rfl (by rw [cutA_own _ _ _ _ _ (by omega), show i + (ls.length + 1 - i) - i = ls.length + 1 - i by omega]) (fun hF => ?_)
  obtain ⟨b5, o5, e5, h5⟩ := hrv.at_ (by decide)
  refine n_l rfl (fun K16 hK16 => l_copyG (k := 1) (news := l.c) Tryd.underlying75 ty39 hF hS rfl rfl (i := 0) rfl (by omega) (l.c_len) (by rw [ht9]; omega) (Hd.c_all1 _) (fun _ => ⟨b5, o5, e5, fun j v hv5 => hS.hcell (h5 j v hv5)⟩) rfl (fun a w hF hS => hK16 _ _ ?_))
  refine hK15 _ _ ?_
  refine c_seq (fun K17 hK17 => ?_)
  refine r_start (fun L => L) [8] mo hS (fun w hS => ?_)
  refine r_q (i := 0) rfl rfl hF hS (q_move rfl) rfl (fun a hF => ?_)
  refine r_q (i := 1) rfl rfl hF hS (q_move rfl) rfl (fun a hF => ?_)
  refine r_q (i := 2) rfl rfl hF hS (q_move rfl) rfl (fun a hF => ?_)
  refine r_q (i := 3) rfl rfl hF hS (q_addI rfl rfl (by omega)) rfl (fun a hF => ?_)
  refine r_q (i := 4) rfl rfl hF hS (q_sliceF Tryd.underlying75 ty39 rfl rfl (by omega)) rfl (fun a hF => ?_)
  refine r_q (i := 5) rfl rfl hF hS (q_move rfl) rfl (fun a hF => ?_)
  refine r_q (i := 6) rfl rfl hF hS (q_move rfl) rfl (fun a hF => ?_)
  refine r_q (i := 7) rfl rfl hF hS (q_sliceF Tryd.underlying75 ty39 rfl rfl (by omega)) rfl (fun a hF => ?_)
  refine r_one (i := 8) (by kernel_rfl) ?_
  refine rw_ hF (s := 50) (u := .slice (some ⟨b9, 0 + (i + 1) * 37, none⟩) (ls.length - i) (c9 - (i + 1))) rfl (by rw [cutA_own _ _ _ _ _ (by omega), show i + (ls.length + 1 - i) - (i + 1) = ls.length - i by omega]) (fun hF => ?_)
  refine rw_ hF (s := 53) (u := .slice (some ⟨bb, 0 + i * 37, none⟩) (ls.length - i) (cp - i)) rfl (by rw [cutA_own _ _ _ _ _ (by omega)]) (fun hF => ?_)
  refine r_lL rfl rfl rfl (fun K18 hK18 => l_copyG (k := ls.length - i) (news := (hdE ls).flatten.drop (i * 37)) Tryd.underlying75 ty39 hF hS rfl rfl (i := 0) rfl (by omega) (by rw [List.length_drop, hdE_len]; omega) (by rw [spl_length (by rw [ht9]; rw [Hd.c_len]; omega), ht9]; omega) (all1_drop _ (hdE_all1 _)) (fun _ => ⟨bb, 0 + i * 37, rfl, fun j v hv5 => cell_of_own hS (i := 1) rfl (src_mid hv5)⟩) rfl (fun a w hF hS => hK18 _ _ ?_))
  refine r_done (by kernel_rfl) ?_
  refine hK17 _ _ ?_
  refine c_seq (fun K19 hK19 => ?_)
  refine c_reg ?_
  refine n_q hF hS (q_move rfl) rfl (fun a hF => ?_)
  refine n_q hF hS (q_assign rfl) rfl (fun a hF => ?_)
  refine hK19 _ _ ?_
  refine c_ret ?_
  repeat (first | refine ret_then ?_ | refine ret_blk ?_)
  refine c_ret' (P := Tryd.prog) (fn := Tryd.f80) rfl hF hS (.tmp rfl .nil) ⟨_, rfl, ?_⟩
  have hcells := hdE_insert ls l hi
  have hpl : i * 37 ≤ (hdE ls).flatten.length := by rw [hdE_len]; omega
  have hle : (hdE (ls.insertIdx i l)).flatten.length = (ls.length + 1) * 37 := by rw [hdE_len, List.length_insertIdx_of_le_length hi]
  try dsimp only [List.set] at hS
  rw [List.take_append_of_le_length hpl] at hS ht9
  have hig := ins_grow (T := t9) (v := l.c) hpl
  rw [show i * 37 + l.c.length = 0 + (i + 1) * 37 by rw [Hd.c_len]; omega, ← hcells] at hig
  rw [show 0 + i * 37 = i * 37 by omega, hig] at hS
  have hSf := hS.lose (.cons_cons _ (List.nil_sublist _))
  rw [← hfb ls, hf0] at hSf
  refine ⟨some ⟨b9, 0, none⟩, c9, [⟨b9, _, 39⟩], ?_, .row hle ?_ (by omega) hc9, hSf⟩
  · show Value.slice _ _ _ = _
    rw [show i + (ls.length + 1 - i) = ls.length + 1 by omega]
  · rw [← hig, spl_length (by rw [spl_length (by rw [ht9]; rw [Hd.c_len]; omega), ht9, List.length_drop, hdE_len]; omega), spl_length (by rw [ht9]; rw [Hd.c_len]; omega), ht9]
  refine c_false hF rfl ?_
  refine wp_skip ?_
  refine hK11 _ _ ?_
  refine c_seq (fun K20 hK20 => ?_)
  refine c_reg ?_
  refine n_q hF hS (q_move rfl) rfl (fun a hF => ?_)
  refine n_q hF hS (q_move rfl) rfl (fun a hF => ?_)
  refine n_q hF hS (q_move rfl) rfl (fun a hF => ?_)
  refine n_q hF hS (q_addI rfl rfl (by omega)) rfl (fun a hF => ?_)
  refine n_q hF hS (q_sliceP Tryd.underlying75 ty39 rfl rfl (by omega)) rfl (fun a hF => ?_)
  refine n_q hF hS (q_assign rfl) rfl (fun a hF => ?_)
  refine hK20 _ _ ?_
  refine c_seq (fun K21 hK21 => ?_)
  refine c_seq (fun K22 hK22 => ?_)
  refine c_reg ?_
  refine n_q hF hS (q_move rfl) rfl (fun a hF => ?_)
  refine n_q hF hS (q_move rfl) rfl (fun a hF => ?_)
  refine n_q hF hS (q_move rfl) rfl (fun a hF => ?_)
  refine n_q hF hS (q_move rfl) rfl (fun a hF => ?_)
  refine n_q hF hS (q_addI rfl rfl (by omega)) rfl (fun a hF => ?_)
  refine n_q hF hS (q_sliceF Tryd.underlying75 ty39 rfl rfl (by omega)) rfl (fun a hF => ?_)
  refine rw_ hF (s := 66) (u := .slice (some ⟨bb, 0 + (i + 1) * 37, none⟩) (ls.length - i) (cp - (i + 1))) rfl (by rw [cutA_own _ _ _ _ _ (by omega), show ls.length + 1 - (i + 1) = ls.length - i by omega]) (fun hF => ?_)
  refine n_q hF hS (q_overlapsH (tS := 75) (tR := 4) (j := 0) Tryd.func108 rfl rfl (by kernel_rfl) rfl Tryd.underlying75 ty39 rfl rfl hv rfl (by rw [List.length_append, hdE_len]; omega)) rfl (fun a hF => ?_)
  refine n_q hF hS (q_not rfl) rfl (fun a hF => ?_)
  refine hK22 _ _ ?_
  refine rw_ hF (s := 68) (u := .bool true) rfl (by rfl) (fun hF => ?_)
  refine c_true hF rfl ?_
  refine c_seq (fun K23 hK23 => ?_)
  refine r_start (fun L => L) [8] mo hS (fun w hS => ?_)
  refine r_q (i := 0) rfl rfl hF hS (q_move rfl) rfl (fun a hF => ?_)
  refine r_q (i := 1) rfl rfl hF hS (q_move rfl) rfl (fun a hF => ?_)
  refine r_q (i := 2) rfl rfl hF hS (q_move rfl) rfl (fun a hF => ?_)
  refine r_q (i := 3) rfl rfl hF hS (q_addI rfl rfl (by omega)) rfl (fun a hF => ?_)
  refine r_q (i := 4) rfl rfl hF hS (q_sliceF Tryd.underlying75 ty39 rfl rfl (by omega)) rfl (fun a hF => ?_)
  refine r_q (i := 5) rfl rfl hF hS (q_move rfl) rfl (fun a hF => ?_)
  refine r_q (i := 6) rfl rfl hF hS (q_move rfl) rfl (fun a hF => ?_)
  refine r_q (i := 7) rfl rfl hF hS (q_sliceF Tryd.underlying75 ty39 rfl rfl (by omega)) rfl (fun a hF => ?_)
  refine r_one (i := 8) (by kernel_rfl) ?_
  refine rw_ hF (s := 73) (u := .slice (some ⟨bb, 0 + (i + 1) * 37, none⟩) (ls.length - i) (cp - (i + 1))) rfl (by rw [cutA_own _ _ _ _ _ (by omega), show ls.length + 1 - (i + 1) = ls.length - i by omega]) (fun hF => ?_)
  refine rw_ hF (s := 76) (u := .slice (some ⟨bb, 0 + i * 37, none⟩) (ls.length + 1 - i) (cp - i)) rfl (by rw [cutA_own _ _ _ _ _ (by omega)]) (fun hF => ?_)
  refine r_lL rfl rfl rfl (fun K24 hK24 => l_copyG (k := ls.length - i) (news := (hdE ls).flatten.drop (i * 37)) Tryd.underlying75 ty39 hF hS rfl rfl (i := 0) rfl (by omega) (by rw [List.length_drop, hdE_len]; omega) (by rw [hcl.1]; omega) (all1_drop _ (hdE_all1 _)) (fun _ => ⟨bb, 0 + i * 37, rfl, fun j v hv5 => cell_of_own hS (i := 0) rfl (src_mid hv5)⟩) rfl (fun a w hF hS => hK24 _ _ ?_))
  refine r_done (by kernel_rfl) ?_
  refine hK23 _ _ ?_
  refine c_seq (fun K25 hK25 => ?_)
  refine c_reg ?_
  refine n_q hF hS (q_move rfl) rfl (fun a hF => ?_)
  refine n_q hF hS (q_move rfl) rfl (fun a hF => ?_)
  refine n_q hF hS (q_sliceF Tryd.underlying75 ty39 rfl rfl (by omega)) rfl (fun a hF => ?_)
  refine n_q hF hS (q_move rfl) rfl (fun a hF => ?_)
  refine rw_ hF (s := 80) (u := .slice (some ⟨bb, 0 + i * 37, none⟩) (ls.length + 1 - i) (cp - i)) rfl (by rw [cutA_own _ _ _ _ _ (by omega)]) (fun hF => ?_)
  obtain ⟨b5, o5, e5, h5⟩ := hrv.at_ (by decide)
  refine n_l rfl (fun K26 hK26 => l_copyG (k := 1) (news := l.c) Tryd.underlying75 ty39 hF hS rfl rfl (i := 0) rfl (by omega) (l.c_len) (by rw [spl_length (by rw [hcl.1, List.length_drop, hdE_len]; omega), hcl.1]; omega) (Hd.c_all1 _) (fun _ => ⟨b5, o5, e5, fun j v hv5 => hS.hcell (h5 j v hv5)⟩) rfl (fun a w hF hS => hK26 _ _ ?_))
  refine hK25 _ _ ?_
  refine c_seq (fun K27 hK27 => ?_)
  refine c_reg ?_
  refine n_q hF hS (q_move rfl) rfl (fun a hF => ?_)
  refine n_q hF hS (q_assign rfl) rfl (fun a hF => ?_)
  refine hK27 _ _ ?_
  refine c_ret ?_
  repeat (first | refine ret_then ?_ | refine ret_blk ?_)
  refine c_ret' (P := Tryd.prog) (fn := Tryd.f80) rfl hF hS (.tmp rfl .nil) ⟨_, rfl, ?_⟩
  have hcells := hdE_insert ls l hi
  have hpl : i * 37 ≤ (hdE ls).flatten.length := by rw [hdE_len]; omega
  have hle : (hdE (ls.insertIdx i l)).flatten.length = (ls.length + 1) * 37 := by rw [hdE_len, List.length_insertIdx_of_le_length hi]
  try dsimp only [List.set] at hS
  have htl : l.c.length ≤ tail.length := by have h9 := hcl.1; rw [List.length_append, hdE_len] at h9; rw [Hd.c_len]; omega
  have hig := ins_place hpl htl
  rw [show i * 37 + l.c.length = 0 + (i + 1) * 37 by rw [Hd.c_len]; omega, ← hcells] at hig
  rw [show 0 + i * 37 = i * 37 by omega, hig] at hS
  refine ⟨some ⟨bb, 0, none⟩, cp, [⟨bb, (hdE (ls.insertIdx i l)).flatten ++ tail.drop l.c.length, 39⟩], rfl, .row hle ?_ (by omega) hcl.2, by rw [← hf0, hfb]; exact hS⟩
  · rw [← hig, spl_length (by rw [spl_length (by rw [hcl.1, List.length_drop, hdE_len]; omega), hcl.1]; rw [Hd.c_len]; omega), spl_length (by rw [hcl.1, List.length_drop, hdE_len]; omega), hcl.1]
end Go.Proofs.YtneokajhmonpaaaDoor

