import Derived.Test.YtneokajhmonpaaaDoorChains4
import Derived.Test.YtneokajhmonpaaaDoorChecked
/- A part of the proofs of the statements about the chartroom program (YtneokajhmonpaaaDoor): the walk and the plain law. -/
set_option linter.unusedSimpArgs false
set_option linter.unusedVariables false
namespace Go.Proofs.YtneokajhmonpaaaDoor
open Go Go.RowKit Go.W
set_option maxRecDepth 10000
namespace T20
theorem en22 : enS Tryd.prog 22 = true := by kernel_rfl
theorem en56 : enS Tryd.prog 56 = true := by kernel_rfl
theorem fl48_0 : flS Tryd.prog 48 0 = some (0, 1) := by kernel_rfl
theorem fl48_1 : flS Tryd.prog 48 1 = some (1, 32) := by kernel_rfl
theorem fl48_2 : flS Tryd.prog 48 2 = some (33, 1) := by kernel_rfl
theorem fl48_3 : flS Tryd.prog 48 3 = some (34, 1) := by kernel_rfl
theorem gu35 : guS Tryd.prog 35 = true := by kernel_rfl
theorem ty3 : tyS Tryd.prog 3 = some (false, 1) := by kernel_rfl
theorem ty4 : tyS Tryd.prog 4 = some (false, 1) := by kernel_rfl
theorem ty5 : tyS Tryd.prog 5 = some (false, 1) := by kernel_rfl
theorem ty35 : tyS Tryd.prog 35 = some (true, 32) := by kernel_rfl
theorem ty46 : tyS Tryd.prog 46 = some (false, 1) := by kernel_rfl
theorem ty48 : tyS Tryd.prog 48 = some (true, 35) := by kernel_rfl
theorem zr48 : zrS Tryd.prog 48 = some [.int .i64 0, .int .u8 0, .int .u8 0, .int .u8 0, .int .u8 0, .int .u8 0, .int .u8 0, .int .u8 0, .int .u8 0, .int .u8 0, .int .u8 0, .int .u8 0, .int .u8 0, .int .u8 0, .int .u8 0, .int .u8 0, .int .u8 0, .int .u8 0, .int .u8 0, .int .u8 0, .int .u8 0, .int .u8 0, .int .u8 0, .int .u8 0, .int .u8 0, .int .u8 0, .int .u8 0, .int .u8 0, .int .u8 0, .int .u8 0, .int .u8 0, .int .u8 0, .int .u8 0, .slice none 0 0, .bool false] := by kernel_rfl
theorem mo : Tryd.prog.follows .mixedOrders = true := by kernel_rfl
end T20
open T20

theorem fine_c (es : List En) (al : Option Addr) (cl : Nat) (hn : es.length ≤ 1000000) (w : World) (Hb : Froz) (hz : Fz Hb w) (hg : Gl 0 1 Hb) (hr : RdL Hb al 35 (enE es)) (ho : EnsOK Hb es) :
    CallsR Tryd.prog 45 [.slice al es.length cl] w fun v w' => v = .bool (fineN es) ∧ St ⟨w, Hb, []⟩ Hb [] w' := by
  refine calls_start Tryd.func45 rfl Tryd.ntmps45 rfl (fun a hF => ?_)
  have hS := St.start w Hb hz
  refine c_seq (fun K1 hK1 => ?_)
  refine c_reg ?_
  refine n_q hF hS (q_assign rfl) rfl (fun a hF => ?_)
  refine hK1 _ _ ?_
  refine c_seq (fun K2 hK2 => ?_)
  refine c_reg ?_
  refine n_l rfl (fun K3 hK3 => l_makeMap hF hS rfl (fun a w H_m bm hle_m hnb hmp hF hS => hK3 _ _ ?_))
  refine n_q hF hS (q_assign rfl) rfl (fun a hF => ?_)
  refine hK2 _ _ ?_
  refine c_seq (fun K4 hK4 => ?_)
  refine c_seq (fun K5 hK5 => ?_)
  refine c_reg ?_
  refine n_q hF hS (q_move rfl) rfl (fun a hF => ?_)
  refine n_q hF hS (q_len Tryd.underlying31 rfl rfl) rfl (fun a hF => ?_)
  refine n_q hF hS (q_move rfl) rfl (fun a hF => ?_)
  refine hK5 _ _ ?_
  refine c_block ?_
  refine c_loopB Hb hF [2, 5, 9, 10, 11, 12, 13, 14, 15, 16, 17, 18, 19, 20, 21, 22, 23, 24, 25, 26, 27, 28, 29, 30, 31, 32, 33, 34, 35, 36, 37, 38, 39, 40, 41, 42, 43, 44, 45, 46, 47, 48]
    (fun k : Nat => [(9, .int .i64 (k : Int))])
    (fun _ => [])
    (fun k H => k ≤ es.length ∧ (∀ e ∈ es.take k, okE e = true) ∧ ((es.take k).map En.dg).Nodup ∧ MP H bm ((es.take k).map En.dg))
    (fun k => es.length - k) (0) ⟨rfl, trivial⟩ (hS) (⟨Nat.zero_le _, by simp, by simp, by simpa using hmp⟩) (hle_m) ?_
  clear hF hS
  intro k a w H hle hF hS hJ
  have hl0 := Le.refl H
  clear hmp
  obtain ⟨hk, hJo, hJn, hmp⟩ := hJ
  try dsimp only at hF hS hk
  have hr1 := hr.mono hle
  have hg1 := hg.mono hle
  have ho1 := ho.mono hle
  refine c_seq (fun K6 hK6 => ?_)
  refine c_reg ?_
  refine n_q hF hS (q_lss rfl rfl) rfl (fun a hF => ?_)
  refine hK6 _ _ ?_
  refine c_seq (fun K7 hK7 => ?_)
  refine spd hF (s := 10) rfl (fun hc10 hF => ?_) (fun hc10 hF => ?_)
  · refine c_true hF rfl ?_
    refine wp_skip ?_
    refine hK7 _ _ ?_
    refine c_seq (fun K8 hK8 => ?_)
    refine c_block ?_
    refine c_seq (fun K9 hK9 => ?_)
    refine c_reg ?_
    have hlt : k < es.length := by omega
    obtain ⟨e, hed⟩ : ∃ q, q = es[k] := ⟨_, rfl⟩
    have hel : (enE es)[k]? = some e.c := by simp [enE, hlt, hed]
    obtain ⟨hd1, hd2, hd3⟩ := ho1 e (by rw [hed]; exact List.getElem_mem hlt)
    refine n_q hF hS (q_indexAddrS Tryd.underlying31 ty48 rfl rfl (by omega) (hr1.some (by simp [enE]; omega))) rfl (fun a hF => ?_)
    refine n_q hF hS (q_loadL0 (v := .agg e.c.toArray) ty48 rfl hr1 hel (by decide) rfl (En.ld_all e)) rfl (fun a hF => ?_)
    refine n_l rfl (fun K10 hK10 => l_alloc hF hS zr48 rfl (fun a w b1 hF hS => hK10 _ _ ?_))
    refine n_l rfl (fun K11 hK11 => l_store0A ty48 hF hS rfl rfl (i := 0) rfl (by simp [dc_length, Hd.c_len, En.c_len, List.length_replicate, List.length_cons, List.length_nil, List.length_append]) (by simp [dc_length, Hd.c_len, En.c_len, List.length_replicate, List.length_cons, List.length_nil, List.length_append]) (En.c_all1 _) (fun a w hF hS => hK11 _ _ ?_))
    refine hK9 _ _ ?_
    refine c_seq (fun K12 hK12 => ?_)
    refine c_block ?_
    refine c_seq (fun K13 hK13 => ?_)
    refine c_reg ?_
    refine n_q hF hS (q_move rfl) rfl (fun a hF => ?_)
    refine n_q hF hS (q_fieldAddr fl48_1 (by decide) rfl) rfl (fun a hF => ?_)
    refine n_q hF hS (q_load ty35 rfl (i := 0) rfl (by simp [dc_length, Hd.c_len, En.c_len, List.length_replicate, List.length_cons, List.length_nil, List.length_append]) rfl (En.ld_dg e)) rfl (fun a hF => ?_)
    refine n_q hF hS (q_lookupDg (dg := e.dg) Tryd.underlying143 Tryd.underlying35 Tryd.underlying5 ty5 (by kernel_rfl) rfl rfl hmp) rfl (fun a hF => ?_)
    refine n_q hF hS (q_assign rfl) rfl (fun a hF => ?_)
    refine hK13 _ _ ?_
    refine spd hF (s := 13) rfl (fun hc13 hF => ?_) (fun hc13 hF => ?_)
    · refine c_true hF rfl ?_
      refine c_seq (fun K14 hK14 => ?_)
      refine c_reg ?_
      refine n_q hF hS (q_assign rfl) rfl (fun a hF => ?_)
      refine hK14 _ _ ?_
      refine c_ret ?_
      repeat (first | refine ret_then ?_ | refine ret_blk ?_)
      refine c_ret' (P := Tryd.prog) (fn := Tryd.f45) rfl hF hS (.tmp rfl .nil) ⟨_, rfl, ?_⟩
      refine ⟨?_, hS.same⟩
      show Value.bool false = _
      rw [fineN_dup hlt (by rw [← hed]; exact hc13)]
    · refine c_false hF rfl ?_
      refine c_seq (fun K15 hK15 => ?_)
      refine c_reg ?_
      refine n_q hF hS (q_fieldAddr fl48_3 (by decide) rfl) rfl (fun a hF => ?_)
      refine n_q hF hS (q_load ty4 rfl (i := 0) rfl (by simp [dc_length, Hd.c_len, En.c_len, List.length_replicate, List.length_cons, List.length_nil, List.length_append]) rfl (En.ld_go e)) rfl (fun a hF => ?_)
      refine n_q hF hS (q_assign rfl) rfl (fun a hF => ?_)
      refine hK15 _ _ ?_
      refine sp hF (s := 18) rfl (fun hc18 hF => ?_) (fun hc18 hF => ?_)
      · refine c_true hF rfl ?_
        refine c_seq (fun K16 hK16 => ?_)
        refine c_reg ?_
        refine n_q hF hS (q_fieldAddr fl48_0 (by decide) rfl) rfl (fun a hF => ?_)
        refine n_q hF hS (q_load ty3 rfl (i := 0) rfl (by simp [dc_length, Hd.c_len, En.c_len, List.length_replicate, List.length_cons, List.length_nil, List.length_append]) rfl rfl) rfl (fun a hF => ?_)
        refine n_q hF hS (q_neI rfl rfl) rfl (fun a hF => ?_)
        refine n_q hF hS (q_move rfl) rfl (fun a hF => ?_)
        refine spn hF (s := 24) rfl (fun hc24 hF => ?_) (fun hc24 hF => ?_)
        · refine n_no hF (b := true) rfl rfl rfl (fun a hF => ?_)
          refine n_no hF (b := true) rfl rfl rfl (fun a hF => ?_)
          refine n_no hF (b := true) rfl rfl rfl (fun a hF => ?_)
          refine n_no hF (b := true) rfl rfl rfl (fun a hF => ?_)
          refine n_q hF hS (q_pick (b := true) rfl rfl) rfl (fun a hF => ?_)
          refine hK16 _ _ ?_
          refine c_true hF rfl ?_
          refine c_seq (fun K17 hK17 => ?_)
          refine c_reg ?_
          refine n_q hF hS (q_assign rfl) rfl (fun a hF => ?_)
          refine hK17 _ _ ?_
          refine c_ret ?_
          repeat (first | refine ret_then ?_ | refine ret_blk ?_)
          refine c_ret' (P := Tryd.prog) (fn := Tryd.f45) rfl hF hS (.tmp rfl .nil) ⟨_, rfl, ?_⟩
          refine ⟨?_, hS.same⟩
          show Value.bool false = _
          rw [fineN_bad hlt (by rw [← hed]; first | exact okE_gone_no hc18 (by omega) | exact okE_live_no hc18 (by omega) | exact okE_live_no2 hc18 hc43)]
        · refine n_yes hF rfl ?_
          refine n_q hF hS (q_fieldAddr fl48_2 (by decide) rfl) rfl (fun a hF => ?_)
          refine n_yes hF rfl ?_
          refine n_q hF hS (q_load ty46 rfl (i := 0) rfl (by simp [dc_length, Hd.c_len, En.c_len, List.length_replicate, List.length_cons, List.length_nil, List.length_append]) rfl (En.ld_da e)) rfl (fun a hF => ?_)
          refine n_yes hF rfl ?_
          refine n_q hF hS (q_len Tryd.underlying46 rfl rfl) rfl (fun a hF => ?_)
          refine n_yes hF rfl ?_
          refine n_q hF hS (q_gtr rfl rfl) rfl (fun a hF => ?_)
          refine n_q hF hS (q_pick (b := false) rfl rfl) rfl (fun a hF => ?_)
          refine hK16 _ _ ?_
          refine spd hF (s := 29) rfl (fun hc29 hF => ?_) (fun hc29 hF => ?_)
          · refine c_true hF rfl ?_
            refine c_seq (fun K18 hK18 => ?_)
            refine c_reg ?_
            refine n_q hF hS (q_assign rfl) rfl (fun a hF => ?_)
            refine hK18 _ _ ?_
            refine c_ret ?_
            repeat (first | refine ret_then ?_ | refine ret_blk ?_)
            refine c_ret' (P := Tryd.prog) (fn := Tryd.f45) rfl hF hS (.tmp rfl .nil) ⟨_, rfl, ?_⟩
            refine ⟨?_, hS.same⟩
            show Value.bool false = _
            rw [fineN_bad hlt (by rw [← hed]; first | exact okE_gone_no hc18 (by omega) | exact okE_live_no hc18 (by omega) | exact okE_live_no2 hc18 hc43)]
          · refine c_false hF rfl ?_
            refine wp_skip ?_
            refine hK12 _ _ ?_
            refine c_reg ?_
            have hok : okE e = true := by first | exact okE_gone hc18 (by omega) (by omega) | exact okE_live hc18 (by omega) hc43
            refine n_q hF hS (q_move rfl) rfl (fun a hF => ?_)
            refine n_q hF hS (q_fieldAddr fl48_1 (by decide) rfl) rfl (fun a hF => ?_)
            refine n_q hF hS (q_load ty35 rfl (i := 0) rfl (by simp [dc_length, Hd.c_len, En.c_len, List.length_replicate, List.length_cons, List.length_nil, List.length_append]) rfl (En.ld_dg e)) rfl (fun a hF => ?_)
            refine n_l rfl (fun K19 hK19 => l_mapUpdateDg (Hb := Hb) Tryd.underlying143 Tryd.underlying35 Tryd.underlying5 ty5 hF hS rfl rfl rfl hmp hnb (by simp) hc13 hle hnb (fun a w H_u hle_u hmp_u hF hS => hK19 _ _ ?_))
            refine hK8 _ _ ?_
            refine c_reg ?_
            refine n_q hF hS (q_addI rfl rfl (by omega)) rfl (fun a hF => ?_)
            refine n_q hF hS (q_move rfl) rfl (fun a hF => ?_)
            exact ⟨k + 1, _, (by show es.length - (k + 1) < es.length - k; omega), hle_u, hF.back ⟨rfl, trivial⟩ rfl (by repeat first | exact Ext.refl _ _ | refine Ext.rem' rfl ?_ | refine Ext.push rfl ?_), hS.nil, ⟨by show k + 1 ≤ es.length; omega, ok_step hlt hJo (by rw [← hed]; exact hok), nodup_step hlt hJn (by rw [← hed]; exact hc13), by rw [take_dg hlt, ← hed]; exact hmp_u⟩⟩
      · refine c_false hF rfl ?_
        refine c_seq (fun K20 hK20 => ?_)
        refine r_start (fun L => L) [] mo hS (fun w hS => ?_)
        refine r_q (i := 0) rfl (by kernel_rfl) (by kernel_rfl) rfl (by kernel_rfl) (fun _ _ _ _ h => h) hF hS (q_fieldAddr fl48_0 (by decide) rfl) rfl (fun a hF => ?_)
        refine r_q (i := 1) rfl (by kernel_rfl) (by kernel_rfl) rfl (by kernel_rfl) (fun _ _ _ _ h => h) hF hS (q_load ty3 rfl (i := 0) rfl (by simp [dc_length, Hd.c_len, En.c_len, List.length_replicate, List.length_cons, List.length_nil, List.length_append]) rfl rfl) rfl (fun a hF => ?_)
        refine r_one (i := 2) (by kernel_rfl) ?_
        have hsub := hS.sub
        refine r_li rfl rfl (fun K21 hK21 => l_call en56 hF rfl rfl (isKind_c e.kind _ _ hS.fz) (fun v21 w hR a hF => ?_))
        obtain ⟨rfl, hc⟩ := hR
        replace hS := hS.call0 hc
        refine hK21 _ _ _ hS (fun _ h => h) ?_
        refine r_q (i := 3) rfl (by kernel_rfl) (by kernel_rfl) rfl (by kernel_rfl) (fun _ _ _ _ h => h) hF hS (q_not rfl) rfl (fun a hF => ?_)
        refine r_q (i := 4) rfl (by kernel_rfl) (by kernel_rfl) rfl (by kernel_rfl) (fun _ _ _ _ h => h) hF hS (q_move rfl) rfl (fun a hF => ?_)
        refine spn hF (s := 35) rfl (fun hc35 hF => ?_) (fun hc35 hF => ?_)
        · refine r_no (b := true) (i := 5) rfl (by kernel_rfl) (by kernel_rfl) rfl (by kernel_rfl) (fun _ _ _ _ h => h) hF hS rfl rfl rfl (fun a hF => ?_)
          refine r_no (b := true) (i := 6) rfl (by kernel_rfl) (by kernel_rfl) rfl (by kernel_rfl) (fun _ _ _ _ h => h) hF hS rfl rfl rfl (fun a hF => ?_)
          refine r_no (b := true) (i := 7) rfl (by kernel_rfl) (by kernel_rfl) rfl (by kernel_rfl) (fun _ _ _ _ h => h) hF hS rfl rfl rfl (fun a hF => ?_)
          refine r_no (b := true) (i := 8) rfl (by kernel_rfl) (by kernel_rfl) rfl (by kernel_rfl) (fun _ _ _ _ h => h) hF hS rfl rfl rfl (fun a hF => ?_)
          refine r_no (b := true) (i := 9) rfl (by kernel_rfl) (by kernel_rfl) rfl (by kernel_rfl) (fun _ _ _ _ h => h) hF hS rfl rfl rfl (fun a hF => ?_)
          refine r_no (b := true) (i := 10) rfl (by kernel_rfl) (by kernel_rfl) rfl (by kernel_rfl) (fun _ _ _ _ h => h) hF hS rfl rfl rfl (fun a hF => ?_)
          refine r_no (b := true) (i := 11) rfl (by kernel_rfl) (by kernel_rfl) rfl (by kernel_rfl) (fun _ _ _ _ h => h) hF hS rfl rfl rfl (fun a hF => ?_)
          refine r_no (b := true) (i := 12) rfl (by kernel_rfl) (by kernel_rfl) rfl (by kernel_rfl) (fun _ _ _ _ h => h) hF hS rfl rfl rfl (fun a hF => ?_)
          refine r_q (i := 13) rfl (by kernel_rfl) (by kernel_rfl) rfl (by kernel_rfl) (fun _ _ _ _ h => h) hF hS (q_pick (b := true) rfl rfl) rfl (fun a hF => ?_)
          refine r_q (i := 14) rfl (by kernel_rfl) (by kernel_rfl) rfl (by kernel_rfl) (fun _ _ _ _ h => h) hF hS (q_assign rfl) rfl (fun a hF => ?_)
          refine r_done (by kernel_rfl) ?_
          refine hK20 _ _ ?_
          refine c_true hF rfl ?_
          refine c_seq (fun K22 hK22 => ?_)
          refine c_reg ?_
          refine n_q hF hS (q_assign rfl) rfl (fun a hF => ?_)
          refine hK22 _ _ ?_
          refine c_ret ?_
          repeat (first | refine ret_then ?_ | refine ret_blk ?_)
          refine c_ret' (P := Tryd.prog) (fn := Tryd.f45) rfl hF hS (.tmp rfl .nil) ⟨_, rfl, ?_⟩
          refine ⟨?_, hS.same⟩
          show Value.bool false = _
          rw [fineN_bad hlt (by rw [← hed]; first | exact okE_gone_no hc18 (by omega) | exact okE_live_no hc18 (by omega) | exact okE_live_no2 hc18 hc43)]
        · refine r_qg (i := 5) rfl (by kernel_rfl) (by kernel_rfl) rfl (by kernel_rfl) (fun _ _ _ _ h => h) hF hS rfl (q_fieldAddr fl48_1 (by decide) rfl) rfl (fun a hF => ?_)
          refine r_qg (i := 6) rfl (by kernel_rfl) (by kernel_rfl) rfl (by kernel_rfl) (fun _ _ _ _ h => h) hF hS rfl (q_load ty35 rfl (i := 0) rfl (by simp [dc_length, Hd.c_len, En.c_len, List.length_replicate, List.length_cons, List.length_nil, List.length_append]) rfl (En.ld_dg e)) rfl (fun a hF => ?_)
          refine r_qg (i := 7) rfl (by kernel_rfl) (by kernel_rfl) rfl (by kernel_rfl) (fun _ _ _ _ h => h) hF hS rfl (q_fieldAddr fl48_0 (by decide) rfl) rfl (fun a hF => ?_)
          refine r_qg (i := 8) rfl (by kernel_rfl) (by kernel_rfl) rfl (by kernel_rfl) (fun _ _ _ _ h => h) hF hS rfl (q_load ty3 rfl (i := 0) rfl (by simp [dc_length, Hd.c_len, En.c_len, List.length_replicate, List.length_cons, List.length_nil, List.length_append]) rfl rfl) rfl (fun a hF => ?_)
          refine r_qg (i := 9) rfl (by kernel_rfl) (by kernel_rfl) rfl (by kernel_rfl) (fun _ _ _ _ h => h) hF hS rfl (q_fieldAddr fl48_2 (by decide) rfl) rfl (fun a hF => ?_)
          refine r_qg (i := 10) rfl (by kernel_rfl) (by kernel_rfl) rfl (by kernel_rfl) (fun _ _ _ _ h => h) hF hS rfl (q_load ty46 rfl (i := 0) rfl (by simp [dc_length, Hd.c_len, En.c_len, List.length_replicate, List.length_cons, List.length_nil, List.length_append]) rfl (En.ld_da e)) rfl (fun a hF => ?_)
          refine r_one (i := 11) (by kernel_rfl) ?_
          have hsub := hS.sub
          refine r_lig rfl rfl hF rfl (fun K23 hK23 => l_call en22 hF rfl rfl (Digest_c e.kind e.bs e.da e.dn e.dp hd3 hd2 _ _ hS.fz hg1 hd1) (fun v23 w hR a hF => ?_))
          obtain ⟨rfl, hc⟩ := hR
          replace hS := hS.call0 hc
          refine hK23 _ _ _ hS (fun _ h => h) ?_
          refine r_qg (i := 12) rfl (by kernel_rfl) (by kernel_rfl) rfl (by kernel_rfl) (fun _ _ _ _ h => h) hF hS rfl (q_neDg gu35 Tryd.underlying35 Tryd.underlying5 ty5 rfl rfl) rfl (fun a hF => ?_)
          refine r_q (i := 13) rfl (by kernel_rfl) (by kernel_rfl) rfl (by kernel_rfl) (fun _ _ _ _ h => h) hF hS (q_pick (b := false) rfl rfl) rfl (fun a hF => ?_)
          refine r_q (i := 14) rfl (by kernel_rfl) (by kernel_rfl) rfl (by kernel_rfl) (fun _ _ _ _ h => h) hF hS (q_assign rfl) rfl (fun a hF => ?_)
          refine r_done (by kernel_rfl) ?_
          refine hK20 _ _ ?_
          refine spn hF (s := 30) rfl (fun hc43 hF => ?_) (fun hc43 hF => ?_)
          · refine c_true hF rfl ?_
            refine c_seq (fun K24 hK24 => ?_)
            refine c_reg ?_
            refine n_q hF hS (q_assign rfl) rfl (fun a hF => ?_)
            refine hK24 _ _ ?_
            refine c_ret ?_
            repeat (first | refine ret_then ?_ | refine ret_blk ?_)
            refine c_ret' (P := Tryd.prog) (fn := Tryd.f45) rfl hF hS (.tmp rfl .nil) ⟨_, rfl, ?_⟩
            refine ⟨?_, hS.same⟩
            show Value.bool false = _
            rw [fineN_bad hlt (by rw [← hed]; first | exact okE_gone_no hc18 (by omega) | exact okE_live_no hc18 (by omega) | exact okE_live_no2 hc18 hc43)]
          · refine c_false hF rfl ?_
            refine wp_skip ?_
            refine hK12 _ _ ?_
            refine c_reg ?_
            have hok : okE e = true := by first | exact okE_gone hc18 (by omega) (by omega) | exact okE_live hc18 (by omega) hc43
            refine n_q hF hS (q_move rfl) rfl (fun a hF => ?_)
            refine n_q hF hS (q_fieldAddr fl48_1 (by decide) rfl) rfl (fun a hF => ?_)
            refine n_q hF hS (q_load ty35 rfl (i := 0) rfl (by simp [dc_length, Hd.c_len, En.c_len, List.length_replicate, List.length_cons, List.length_nil, List.length_append]) rfl (En.ld_dg e)) rfl (fun a hF => ?_)
            refine n_l rfl (fun K25 hK25 => l_mapUpdateDg (Hb := Hb) Tryd.underlying143 Tryd.underlying35 Tryd.underlying5 ty5 hF hS rfl rfl rfl hmp hnb (by simp) hc13 hle hnb (fun a w H_u hle_u hmp_u hF hS => hK25 _ _ ?_))
            refine hK8 _ _ ?_
            refine c_reg ?_
            refine n_q hF hS (q_addI rfl rfl (by omega)) rfl (fun a hF => ?_)
            refine n_q hF hS (q_move rfl) rfl (fun a hF => ?_)
            exact ⟨k + 1, _, (by show es.length - (k + 1) < es.length - k; omega), hle_u, hF.back ⟨rfl, trivial⟩ rfl (by repeat first | exact Ext.refl _ _ | refine Ext.rem' rfl ?_ | refine Ext.push rfl ?_), hS.nil, ⟨by show k + 1 ≤ es.length; omega, ok_step hlt hJo (by rw [← hed]; exact hok), nodup_step hlt hJn (by rw [← hed]; exact hc13), by rw [take_dg hlt, ← hed]; exact hmp_u⟩⟩
  · refine c_false hF rfl ?_
    refine c_exit ?_
    refine hK4 _ _ ?_
    refine c_seq (fun K26 hK26 => ?_)
    refine c_reg ?_
    refine n_q hF hS (q_move rfl) rfl (fun a hF => ?_)
    refine n_q hF hS (q_len Tryd.underlying31 rfl rfl) rfl (fun a hF => ?_)
    refine n_q hF hS (q_gtr rfl rfl) rfl (fun a hF => ?_)
    refine n_q hF hS (q_move rfl) rfl (fun a hF => ?_)
    refine spd hF (s := 52) rfl (fun hc52 hF => ?_) (fun hc52 hF => ?_)
    · refine n_yes hF rfl ?_
      refine n_q hF hS (q_move rfl) rfl (fun a hF => ?_)
      refine n_yes hF rfl ?_
      refine n_q hF hS (q_len Tryd.underlying31 rfl rfl) rfl (fun a hF => ?_)
      refine n_yes hF rfl ?_
      refine n_q hF hS (q_leq rfl rfl) rfl (fun a hF => ?_)
      refine n_q hF hS (q_pick (b := true) rfl rfl) rfl (fun a hF => ?_)
      refine n_q hF hS (q_assign rfl) rfl (fun a hF => ?_)
      refine hK26 _ _ ?_
      refine c_ret ?_
      repeat (first | refine ret_then ?_ | refine ret_blk ?_)
      refine c_ret' (P := Tryd.prog) (fn := Tryd.f45) rfl hF hS (.tmp rfl .nil) ⟨_, rfl, ?_⟩
      have hke : k = es.length := by omega
      rw [hke, List.take_length] at hJo hJn
      refine ⟨?_, hS.same⟩
      show Value.bool _ = _
      rw [fineN_all hJo hJn]
      congr 1
      first | (symm; apply decide_eq_decide.2; omega) | (apply decide_eq_decide.2; omega) | (symm; simp; omega) | (simp; omega)
    · refine n_no hF (b := false) rfl rfl rfl (fun a hF => ?_)
      refine n_no hF (b := false) rfl rfl rfl (fun a hF => ?_)
      refine n_no hF (b := false) rfl rfl rfl (fun a hF => ?_)
      refine n_q hF hS (q_pick (b := false) rfl rfl) rfl (fun a hF => ?_)
      refine n_q hF hS (q_assign rfl) rfl (fun a hF => ?_)
      refine hK26 _ _ ?_
      refine c_ret ?_
      repeat (first | refine ret_then ?_ | refine ret_blk ?_)
      refine c_ret' (P := Tryd.prog) (fn := Tryd.f45) rfl hF hS (.tmp rfl .nil) ⟨_, rfl, ?_⟩
      have hke : k = es.length := by omega
      rw [hke, List.take_length] at hJo hJn
      refine ⟨?_, hS.same⟩
      show Value.bool _ = _
      rw [fineN_all hJo hJn]
      congr 1
      first | (symm; apply decide_eq_decide.2; omega) | (apply decide_eq_decide.2; omega) | (symm; simp; omega) | (simp; omega)
end Go.Proofs.YtneokajhmonpaaaDoor
namespace Go.Proofs.YtneokajhmonpaaaDoor
open Go Go.RowKit Go.W
set_option maxRecDepth 10000
namespace T21
theorem en43 : enS Tryd.prog 43 = true := by kernel_rfl
theorem en44 : enS Tryd.prog 44 = true := by kernel_rfl
theorem en45 : enS Tryd.prog 45 = true := by kernel_rfl
theorem en112 : enS Tryd.prog 112 = true := by kernel_rfl
theorem en129 : enS Tryd.prog 129 = true := by kernel_rfl
theorem fl26_0 : flS Tryd.prog 26 0 = some (0, 1) := by kernel_rfl
theorem fl26_1 : flS Tryd.prog 26 1 = some (1, 1) := by kernel_rfl
theorem fl26_2 : flS Tryd.prog 26 2 = some (2, 1) := by kernel_rfl
theorem fl100_0 : flS Tryd.prog 100 0 = some (0, 1) := by kernel_rfl
theorem fl100_1 : flS Tryd.prog 100 1 = some (1, 1) := by kernel_rfl
theorem ty3 : tyS Tryd.prog 3 = some (false, 1) := by kernel_rfl
theorem ty24 : tyS Tryd.prog 24 = some (false, 1) := by kernel_rfl
theorem ty26 : tyS Tryd.prog 26 = some (true, 3) := by kernel_rfl
theorem ty31 : tyS Tryd.prog 31 = some (false, 1) := by kernel_rfl
theorem ty100 : tyS Tryd.prog 100 = some (true, 2) := by kernel_rfl
theorem zr26 : zrS Tryd.prog 26 = some [.int .i64 0, .int .i64 0, .slice none 0 0] := by kernel_rfl
theorem zr100 : zrS Tryd.prog 100 = some [.int .i64 0, .slice none 0 0] := by kernel_rfl
theorem mo : Tryd.prog.follows .mixedOrders = true := by kernel_rfl
end T21
open T21

theorem isNaN_c (n : Int) (w : World) (H : Froz) (hz : Fz H w) : CallsR Tryd.prog 129 [.int .i64 n] w fun v w' => v = .bool false ∧ St ⟨w, H, []⟩ H [] w' := by
  refine calls_start Tryd.func129 rfl Tryd.ntmps129 rfl (fun a hF => ?_)
  have hS := St.start w H hz
  have hS0 := hS
  refine c_seq (fun K1 hK1 => ?_)
  refine c_reg ?_
  refine n_q hF hS (q_assign rfl) rfl (fun a hF => ?_)
  refine hK1 _ _ ?_
  refine c_seq (fun K2 hK2 => ?_)
  refine c_reg ?_
  refine n_q hF hS (q_move rfl) rfl (fun a hF => ?_)
  refine n_q hF hS (q_move rfl) rfl (fun a hF => ?_)
  refine n_q hF hS (q_neI rfl rfl) rfl (fun a hF => ?_)
  refine n_q hF hS (q_assign rfl) rfl (fun a hF => ?_)
  refine hK2 _ _ ?_
  refine c_ret ?_
  repeat (first | refine ret_then ?_ | refine ret_blk ?_)
  refine c_ret' (P := Tryd.prog) (fn := Tryd.f129) rfl hF hS (.tmp rfl .nil) ⟨_, rfl, ?_⟩
  exact ⟨by show Value.bool _ = _; simp, hS.same⟩

theorem Compare_c (x y : Int) (w : World) (H : Froz) (hz : Fz H w) : CallsR Tryd.prog 112 [.int .i64 x, .int .i64 y] w fun v w' => v = .int .i64 (cmpI x y) ∧ St ⟨w, H, []⟩ H [] w' := by
  refine calls_start Tryd.func112 rfl Tryd.ntmps112 rfl (fun a hF => ?_)
  have hS := St.start w H hz
  have hS0 := hS
  refine c_seq (fun K1 hK1 => ?_)
  refine c_reg ?_
  refine n_q hF hS (q_assign rfl) rfl (fun a hF => ?_)
  refine hK1 _ _ ?_
  refine c_seq (fun K2 hK2 => ?_)
  refine c_reg ?_
  refine n_q hF hS (q_move rfl) rfl (fun a hF => ?_)
  refine n_l rfl (fun K3 hK3 => l_call en129 hF rfl rfl (isNaN_c _ _ _ hS.fz) (fun v3 w hR a hF => ?_))
  obtain ⟨rfl, hc⟩ := hR
  replace hS := hS.call0 hc
  refine hK3 _ _ ?_
  refine n_q hF hS (q_assign rfl) rfl (fun a hF => ?_)
  refine hK2 _ _ ?_
  refine c_seq (fun K4 hK4 => ?_)
  refine c_reg ?_
  refine n_q hF hS (q_move rfl) rfl (fun a hF => ?_)
  refine n_l rfl (fun K5 hK5 => l_call en129 hF rfl rfl (isNaN_c _ _ _ hS.fz) (fun v5 w hR a hF => ?_))
  obtain ⟨rfl, hc⟩ := hR
  replace hS := hS.call0 hc
  refine hK5 _ _ ?_
  refine n_q hF hS (q_assign rfl) rfl (fun a hF => ?_)
  refine hK4 _ _ ?_
  refine c_seq (fun K6 hK6 => ?_)
  refine c_seq (fun K7 hK7 => ?_)
  refine c_reg ?_
  refine n_q hF hS (q_move rfl) rfl (fun a hF => ?_)
  refine hK7 _ _ ?_
  refine rw_ hF (s := 11) (u := .bool false) rfl (by rfl) (fun hF => ?_)
  refine c_false hF rfl ?_
  refine wp_skip ?_
  refine hK6 _ _ ?_
  refine c_seq (fun K8 hK8 => ?_)
  refine c_seq (fun K9 hK9 => ?_)
  refine c_reg ?_
  refine n_q hF hS (q_move rfl) rfl (fun a hF => ?_)
  refine hK9 _ _ ?_
  refine rw_ hF (s := 13) (u := .bool false) rfl (by rfl) (fun hF => ?_)
  refine c_false hF rfl ?_
  refine wp_skip ?_
  refine hK8 _ _ ?_
  refine c_seq (fun K10 hK10 => ?_)
  refine c_seq (fun K11 hK11 => ?_)
  refine c_reg ?_
  refine n_q hF hS (q_move rfl) rfl (fun a hF => ?_)
  refine n_q hF hS (q_move rfl) rfl (fun a hF => ?_)
  refine n_q hF hS (q_lss rfl rfl) rfl (fun a hF => ?_)
  refine hK11 _ _ ?_
  refine spd hF (s := 16) rfl (fun hc16 hF => ?_) (fun hc16 hF => ?_)
  · refine c_true hF rfl ?_
    refine c_seq (fun K12 hK12 => ?_)
    refine c_reg ?_
    refine n_q hF hS (q_assign rfl) rfl (fun a hF => ?_)
    refine hK12 _ _ ?_
    refine c_ret ?_
    repeat (first | refine ret_then ?_ | refine ret_blk ?_)
    refine c_ret' (P := Tryd.prog) (fn := Tryd.f112) rfl hF hS (.tmp rfl .nil) ⟨_, rfl, ?_⟩
    refine ⟨?_, hS.same⟩
    show Value.int _ _ = _
    unfold cmpI
    first | rw [if_pos (by omega)] | rw [if_neg (by omega), if_pos (by omega)] | rw [if_neg (by omega), if_neg (by omega)]
  · refine c_false hF rfl ?_
    refine wp_skip ?_
    refine hK10 _ _ ?_
    refine c_seq (fun K13 hK13 => ?_)
    refine c_seq (fun K14 hK14 => ?_)
    refine c_reg ?_
    refine n_q hF hS (q_move rfl) rfl (fun a hF => ?_)
    refine n_q hF hS (q_move rfl) rfl (fun a hF => ?_)
    refine n_q hF hS (q_gtr rfl rfl) rfl (fun a hF => ?_)
    refine hK14 _ _ ?_
    refine spd hF (s := 19) rfl (fun hc19 hF => ?_) (fun hc19 hF => ?_)
    · refine c_true hF rfl ?_
      refine c_seq (fun K15 hK15 => ?_)
      refine c_reg ?_
      refine n_q hF hS (q_assign rfl) rfl (fun a hF => ?_)
      refine hK15 _ _ ?_
      refine c_ret ?_
      repeat (first | refine ret_then ?_ | refine ret_blk ?_)
      refine c_ret' (P := Tryd.prog) (fn := Tryd.f112) rfl hF hS (.tmp rfl .nil) ⟨_, rfl, ?_⟩
      refine ⟨?_, hS.same⟩
      show Value.int _ _ = _
      unfold cmpI
      first | rw [if_pos (by omega)] | rw [if_neg (by omega), if_pos (by omega)] | rw [if_neg (by omega), if_neg (by omega)]
    · refine c_false hF rfl ?_
      refine wp_skip ?_
      refine hK13 _ _ ?_
      refine c_seq (fun K16 hK16 => ?_)
      refine c_reg ?_
      refine n_q hF hS (q_assign rfl) rfl (fun a hF => ?_)
      refine hK16 _ _ ?_
      refine c_ret ?_
      repeat (first | refine ret_then ?_ | refine ret_blk ?_)
      refine c_ret' (P := Tryd.prog) (fn := Tryd.f112) rfl hF hS (.tmp rfl .nil) ⟨_, rfl, ?_⟩
      refine ⟨?_, hS.same⟩
      show Value.int _ _ = _
      unfold cmpI
      first | rw [if_pos (by omega)] | rw [if_neg (by omega), if_pos (by omega)] | rw [if_neg (by omega), if_neg (by omega)]

theorem log1_c (f g : Int) (v1 : Value) (h1 : v1.oneCell' = true) (w : World) (H : Froz) (hz : Fz H w) : CallsR Tryd.prog 111 [.agg #[.int .i64 f, v1], .int .i64 g] w fun v w' => v = .int .i64 (cmpI f g) ∧ St ⟨w, H, []⟩ H [] w' := by
  refine calls_start Tryd.func111 rfl Tryd.ntmps111 rfl (fun a hF => ?_)
  have hS := St.start w H hz
  refine c_seq (fun K1 hK1 => ?_)
  refine c_reg ?_
  refine n_l rfl (fun K2 hK2 => l_boxA hF hS rfl rfl (fun a w b1 hF hS => hK2 _ _ ?_))
  refine n_q hF hS (q_assign rfl) rfl (fun a hF => ?_)
  refine hK1 _ _ ?_
  refine c_seq (fun K3 hK3 => ?_)
  refine c_reg ?_
  refine n_q hF hS (q_fieldAddr fl100_0 (by decide) rfl) rfl (fun a hF => ?_)
  refine n_q hF hS (q_load ty3 rfl (i := 0) rfl rfl rfl rfl) rfl (fun a hF => ?_)
  refine n_q hF hS (q_move rfl) rfl (fun a hF => ?_)
  refine n_l rfl (fun K4 hK4 => l_call en112 hF rfl rfl (Compare_c f g _ _ hS.fz) (fun v4 w hR a hF => ?_))
  obtain ⟨rfl, hc⟩ := hR
  replace hS := hS.call0 hc
  refine hK4 _ _ ?_
  refine n_q hF hS (q_assign rfl) rfl (fun a hF => ?_)
  refine hK3 _ _ ?_
  refine c_ret ?_
  repeat (first | refine ret_then ?_ | refine ret_blk ?_)
  refine c_ret' (P := Tryd.prog) (fn := Tryd.f111) rfl hF hS (.tmp rfl .nil) ⟨_, rfl, ?_⟩
  exact ⟨rfl, hS.same⟩

theorem SCheck_c (s : Sto) (w : World) (H : Froz) (hz : Fz H w) (hg : Gl 0 1 H) (ho : StOK H s) :
    CallsR Tryd.prog 13 [.agg s.c.toArray] w fun v w' => v = .int .i64 (checkN s) ∧ St ⟨w, H, []⟩ H [] w' := by
  refine calls_start Tryd.func13 rfl Tryd.ntmps13 rfl (fun a hF => ?_)
  have hS := St.start w H hz
  have hsl := ho.len
  refine c_seq (fun K1 hK1 => ?_)
  refine c_reg ?_
  refine n_l rfl (fun K2 hK2 => l_boxA hF hS rfl rfl (fun a w b1 hF hS => hK2 _ _ ?_))
  refine n_q hF hS (q_assign rfl) rfl (fun a hF => ?_)
  refine hK1 _ _ ?_
  refine c_seq (fun K3 hK3 => ?_)
  refine c_seq (fun K4 hK4 => ?_)
  refine c_reg ?_
  refine n_q hF hS (q_fieldAddr fl26_0 (by decide) rfl) rfl (fun a hF => ?_)
  refine n_q hF hS (q_load ty3 rfl (i := 0) rfl rfl rfl (show ldv false 1 s.c 0 = some (.int .i64 s.id) from rfl)) rfl (fun a hF => ?_)
  refine n_q hF hS (q_fieldAddr fl26_1 (by decide) rfl) rfl (fun a hF => ?_)
  refine n_q hF hS (q_load ty3 rfl (i := 0) rfl rfl rfl (show ldv false 1 s.c 1 = some (.int .i64 s.priv) from rfl)) rfl (fun a hF => ?_)
  refine n_l rfl (fun K5 hK5 => l_call en43 hF rfl rfl (New_c s.id s.priv _ _ hS.fz) (fun v5 w hR a hF => ?_))
  obtain ⟨rfl, hc⟩ := hR
  replace hS := hS.call0 hc
  refine hK5 _ _ ?_
  refine n_q hF hS (q_move rfl) rfl (fun a hF => ?_)
  refine n_q hF hS (q_extract (i := 0) rfl rfl) rfl (fun a hF => ?_)
  refine n_q hF hS (q_extract (i := 1) rfl rfl) rfl (fun a hF => ?_)
  refine n_l rfl (fun K6 hK6 => l_alloc hF hS zr26 rfl (fun a w b2 hF hS => hK6 _ _ ?_))
  refine n_l rfl (fun K7 hK7 => l_store0A ty26 hF hS rfl rfl (i := 0) rfl rfl rfl rfl (fun a w hF hS => hK7 _ _ ?_))
  refine n_q hF hS (q_assign rfl) rfl (fun a hF => ?_)
  refine hK4 _ _ ?_
  refine c_seq (fun K8 hK8 => ?_)
  refine c_reg ?_
  refine n_q hF hS (q_move rfl) rfl (fun a hF => ?_)
  refine n_q hF hS (q_neI rfl rfl) rfl (fun a hF => ?_)
  refine hK8 _ _ ?_
  refine spn hF (s := 16) rfl (fun hc16 hF => ?_) (fun hc16 hF => ?_)
  · refine c_true hF rfl ?_
    refine c_seq (fun K9 hK9 => ?_)
    refine c_reg ?_
    refine n_q hF hS (q_assign rfl) rfl (fun a hF => ?_)
    refine hK9 _ _ ?_
    refine c_ret ?_
    repeat (first | refine ret_then ?_ | refine ret_blk ?_)
    refine c_ret' (P := Tryd.prog) (fn := Tryd.f13) rfl hF hS (.tmp rfl .nil) ⟨_, rfl, ?_⟩
    refine ⟨?_, hS.same⟩
    rw [checkN_new hc16]; rfl
  · refine c_false hF rfl ?_
    refine wp_skip ?_
    refine hK3 _ _ ?_
    refine c_seq (fun K10 hK10 => ?_)
    refine c_seq (fun K11 hK11 => ?_)
    refine c_reg ?_
    obtain ⟨H_hbx, hH_hbx, hle_hbx, hS_hbx⟩ := hS.freeze' (i := 1) rfl
    replace hS := hS_hbx
    replace hg := hg.mono hle_hbx
    replace ho := ho.mono hle_hbx
    have hbx : HR H_hbx b1 s.c := by rw [hH_hbx]; exact frz_hr
    refine n_q hF hS (q_fieldAddr fl26_2 (by decide) rfl) rfl (fun a hF => ?_)
    refine n_q hF hS (q_loadG (o := 0 + 2) (v := .slice s.la s.logs.length s.lc) ty24 rfl hbx.h (Nat.le_of_ble_eq_true rfl) rfl rfl) rfl (fun a hF => ?_)
    refine n_q hF hS (q_len Tryd.underlying24 rfl rfl) rfl (fun a hF => ?_)
    refine n_q hF hS (q_move rfl) rfl (fun a hF => ?_)
    refine hK11 _ _ ?_
    refine c_block ?_
    obtain ⟨NB, hNB⟩ : ∃ NB, St _ _ [⟨b2, NB, 26⟩] _ := ⟨_, hS⟩
    clear hS
    have hS := hNB
    clear hNB
    refine c_loopL hF [2, 5, 6, 20, 21, 22, 23, 24, 25, 26, 27, 28, 29, 30, 31, 32, 33, 34, 35, 36, 37, 38, 39, 40, 41, 42, 43, 44, 45, 46, 47, 48, 49, 50, 51]
      (fun k : Nat => [(20, .int .i64 (k : Int))])
      (fun _ => [⟨b2, NB, 26⟩])
      (fun k _ => k ≤ s.logs.length ∧ ∀ j, j < k → lgB s.logs j = true)
      (fun k => s.logs.length - k) (0) ⟨rfl, trivial⟩ (hS) (⟨Nat.zero_le _, fun j h => absurd h (Nat.not_lt_zero _)⟩) ?_
    clear hF hS
    intro k a w H hle hF hS hJ
    replace hg := hg.mono hle
    replace ho := ho.mono hle
    replace hbx := hbx.mono hle
    have hl0 := Le.refl H
    obtain ⟨hk, hJ2⟩ := hJ
    try dsimp only at hF hS hk
    refine c_seq (fun K12 hK12 => ?_)
    refine c_reg ?_
    refine n_q hF hS (q_lss rfl rfl) rfl (fun a hF => ?_)
    refine hK12 _ _ ?_
    refine c_seq (fun K13 hK13 => ?_)
    refine spd hF (s := 21) rfl (fun hc21 hF => ?_) (fun hc21 hF => ?_)
    · refine c_true hF rfl ?_
      refine wp_skip ?_
      refine hK13 _ _ ?_
      refine c_seq (fun K14 hK14 => ?_)
      refine c_block ?_
      refine c_seq (fun K15 hK15 => ?_)
      refine c_reg ?_
      have hlt : k < s.logs.length := by omega
      obtain ⟨l, hld⟩ : ∃ q, q = s.logs[k] := ⟨_, rfl⟩
      have hl? : s.logs[k]? = some l := by rw [hld]; simp [hlt]
      have hel : (lgE s.logs)[k]? = some l.c := by simp [lgE, hlt, hld]
      have hlo := ho.lg l (by rw [hld]; exact List.getElem_mem hlt)
      have hbe := lgB_eq hl?
      refine n_q hF hS (q_move rfl) rfl (fun a hF => ?_)
      refine n_q hF hS (q_indexAddrS Tryd.underlying24 ty100 rfl rfl (by omega) (ho.rd.some (by simp [lgE]; omega))) rfl (fun a hF => ?_)
      refine n_q hF hS (q_loadL0 (v := .agg l.c.toArray) ty100 rfl ho.rd hel (by decide) rfl rfl) rfl (fun a hF => ?_)
      refine n_l rfl (fun K16 hK16 => l_alloc hF hS zr100 rfl (fun a w b3 hF hS => hK16 _ _ ?_))
      refine n_q hF hS (q_assign rfl) rfl (fun a hF => ?_)
      refine n_l rfl (fun K17 hK17 => l_store0A ty100 hF hS rfl rfl (i := 0) rfl rfl rfl rfl (fun a w hF hS => hK17 _ _ ?_))
      refine hK15 _ _ ?_
      refine c_seq (fun K18 hK18 => ?_)
      refine r_start (fun L => L) [] mo hS (fun w hS => ?_)
      refine r_q (i := 0) rfl (by kernel_rfl) (by kernel_rfl) rfl (by kernel_rfl) (fun _ _ _ _ h => h) hF hS (q_fieldAddr fl100_0 (by decide) rfl) rfl (fun a hF => ?_)
      refine r_q (i := 1) rfl (by kernel_rfl) (by kernel_rfl) rfl (by kernel_rfl) (fun _ _ _ _ h => h) hF hS (q_load ty3 rfl (i := 0) rfl rfl rfl (show ldv false 1 l.c 0 = some (.int .i64 l.fo) from rfl)) rfl (fun a hF => ?_)
      refine r_one (i := 2) (by kernel_rfl) ?_
      have hsub := hS.sub
      refine r_li rfl rfl (fun K19 hK19 => l_call en44 hF rfl rfl (isFolder_c l.fo _ _ hS.fz) (fun v19 w hR a hF => ?_))
      obtain ⟨rfl, hc⟩ := hR
      replace hS := hS.call0 hc
      refine hK19 _ _ _ hS (fun _ h => h) ?_
      refine r_q (i := 3) rfl (by kernel_rfl) (by kernel_rfl) rfl (by kernel_rfl) (fun _ _ _ _ h => h) hF hS (q_not rfl) rfl (fun a hF => ?_)
      refine r_q (i := 4) rfl (by kernel_rfl) (by kernel_rfl) rfl (by kernel_rfl) (fun _ _ _ _ h => h) hF hS (q_move rfl) rfl (fun a hF => ?_)
      refine spn hF (s := 29) rfl (fun hc29 hF => ?_) (fun hc29 hF => ?_)
      · refine r_no (b := true) (i := 5) rfl (by kernel_rfl) (by kernel_rfl) rfl (by kernel_rfl) (fun _ _ _ _ h => h) hF hS rfl rfl rfl (fun a hF => ?_)
        refine r_no (b := true) (i := 6) rfl (by kernel_rfl) (by kernel_rfl) rfl (by kernel_rfl) (fun _ _ _ _ h => h) hF hS rfl rfl rfl (fun a hF => ?_)
        refine r_no (b := true) (i := 7) rfl (by kernel_rfl) (by kernel_rfl) rfl (by kernel_rfl) (fun _ _ _ _ h => h) hF hS rfl rfl rfl (fun a hF => ?_)
        refine r_nou (i := 8) rfl (by kernel_rfl) (by kernel_rfl) rfl (by kernel_rfl) (fun _ _ _ _ h => h) hF hS rfl rfl (fun a hF => ?_)
        refine r_nou (i := 9) rfl (by kernel_rfl) (by kernel_rfl) rfl (by kernel_rfl) (fun _ _ _ _ h => h) hF hS rfl rfl (fun a hF => ?_)
        refine r_nou (i := 10) rfl (by kernel_rfl) (by kernel_rfl) rfl (by kernel_rfl) (fun _ _ _ _ h => h) hF hS rfl rfl (fun a hF => ?_)
        refine r_nou (i := 11) rfl (by kernel_rfl) (by kernel_rfl) rfl (by kernel_rfl) (fun _ _ _ _ h => h) hF hS rfl rfl (fun a hF => ?_)
        refine r_nou (i := 12) rfl (by kernel_rfl) (by kernel_rfl) rfl (by kernel_rfl) (fun _ _ _ _ h => h) hF hS rfl rfl (fun a hF => ?_)
        refine r_nou (i := 13) rfl (by kernel_rfl) (by kernel_rfl) rfl (by kernel_rfl) (fun _ _ _ _ h => h) hF hS rfl rfl (fun a hF => ?_)
        refine r_nou (i := 14) rfl (by kernel_rfl) (by kernel_rfl) rfl (by kernel_rfl) (fun _ _ _ _ h => h) hF hS rfl rfl (fun a hF => ?_)
        refine r_nou (i := 15) rfl (by kernel_rfl) (by kernel_rfl) rfl (by kernel_rfl) (fun _ _ _ _ h => h) hF hS rfl rfl (fun a hF => ?_)
        refine r_nou (i := 16) rfl (by kernel_rfl) (by kernel_rfl) rfl (by kernel_rfl) (fun _ _ _ _ h => h) hF hS rfl rfl (fun a hF => ?_)
        refine r_nou (i := 17) rfl (by kernel_rfl) (by kernel_rfl) rfl (by kernel_rfl) (fun _ _ _ _ h => h) hF hS rfl rfl (fun a hF => ?_)
        refine r_no (b := true) (i := 18) rfl (by kernel_rfl) (by kernel_rfl) rfl (by kernel_rfl) (fun _ _ _ _ h => h) hF hS rfl rfl rfl (fun a hF => ?_)
        refine r_q (i := 19) rfl (by kernel_rfl) (by kernel_rfl) rfl (by kernel_rfl) (fun _ _ _ _ h => h) hF hS (q_pick (b := true) rfl rfl) rfl (fun a hF => ?_)
        refine r_q (i := 20) rfl (by kernel_rfl) (by kernel_rfl) rfl (by kernel_rfl) (fun _ _ _ _ h => h) hF hS (q_move rfl) rfl (fun a hF => ?_)
        refine r_no (b := true) (i := 21) rfl (by kernel_rfl) (by kernel_rfl) rfl (by kernel_rfl) (fun _ _ _ _ h => h) hF hS rfl rfl rfl (fun a hF => ?_)
        refine r_no (b := true) (i := 22) rfl (by kernel_rfl) (by kernel_rfl) rfl (by kernel_rfl) (fun _ _ _ _ h => h) hF hS rfl rfl rfl (fun a hF => ?_)
        refine r_no (b := true) (i := 23) rfl (by kernel_rfl) (by kernel_rfl) rfl (by kernel_rfl) (fun _ _ _ _ h => h) hF hS rfl rfl rfl (fun a hF => ?_)
        refine r_no (b := true) (i := 24) rfl (by kernel_rfl) (by kernel_rfl) rfl (by kernel_rfl) (fun _ _ _ _ h => h) hF hS rfl rfl rfl (fun a hF => ?_)
        refine r_q (i := 25) rfl (by kernel_rfl) (by kernel_rfl) rfl (by kernel_rfl) (fun _ _ _ _ h => h) hF hS (q_pick (b := true) rfl rfl) rfl (fun a hF => ?_)
        refine r_done (by kernel_rfl) ?_
        refine hK18 _ _ ?_
        refine c_true hF rfl ?_
        refine c_seq (fun K20 hK20 => ?_)
        refine c_reg ?_
        refine n_q hF hS (q_assign rfl) rfl (fun a hF => ?_)
        refine hK20 _ _ ?_
        refine c_ret ?_
        repeat (first | refine ret_then ?_ | refine ret_blk ?_)
        refine c_ret' (P := Tryd.prog) (fn := Tryd.f13) rfl hF hS (.tmp rfl .nil) ⟨_, rfl, ?_⟩
        have hbad : lgB s.logs k = false := by first | exact lgB_bad1 hl? hc29 | exact lgB_bad2 hl? (by omega) (by omega) | exact lgB_bad3 hl? (by simpa using hc50)
        refine ⟨?_, hS.same⟩
        rw [checkN_no (logsN_no hlt hbad)]; rfl
      · refine r_qg (i := 5) rfl (by kernel_rfl) (by kernel_rfl) rfl (by kernel_rfl) (fun _ _ _ _ h => h) hF hS rfl (q_move rfl) rfl (fun a hF => ?_)
        refine r_qg (i := 6) rfl (by kernel_rfl) (by kernel_rfl) rfl (by kernel_rfl) (fun _ _ _ _ h => h) hF hS rfl (q_gtr rfl rfl) rfl (fun a hF => ?_)
        refine r_qg (i := 7) rfl (by kernel_rfl) (by kernel_rfl) rfl (by kernel_rfl) (fun _ _ _ _ h => h) hF hS rfl (q_move rfl) rfl (fun a hF => ?_)
        refine spd hF (s := 32) rfl (fun hc32 hF => ?_) (fun hc32 hF => ?_)
        · refine r_qg (i := 8) rfl (by kernel_rfl) (by kernel_rfl) rfl (by kernel_rfl) (fun _ _ _ _ h => h) hF hS rfl (q_fieldAddr fl26_2 (by decide) rfl) rfl (fun a hF => ?_)
          refine r_qg (i := 9) rfl (by kernel_rfl) (by kernel_rfl) rfl (by kernel_rfl) (fun _ _ _ _ h => h) hF hS rfl (q_loadG (o := 0 + 2) (v := .slice s.la s.logs.length s.lc) ty24 rfl hbx.h (Nat.le_of_ble_eq_true rfl) rfl rfl) rfl (fun a hF => ?_)
          refine r_qg (i := 10) rfl (by kernel_rfl) (by kernel_rfl) rfl (by kernel_rfl) (fun _ _ _ _ h => h) hF hS rfl (q_move rfl) rfl (fun a hF => ?_)
          refine r_qg (i := 11) rfl (by kernel_rfl) (by kernel_rfl) rfl (by kernel_rfl) (fun _ _ _ _ h => h) hF hS rfl (q_subI rfl rfl (by omega)) rfl (fun a hF => ?_)
          refine r_qg (i := 12) rfl (by kernel_rfl) (by kernel_rfl) rfl (by kernel_rfl) (fun _ _ _ _ h => h) hF hS rfl (q_indexAddrS Tryd.underlying24 ty100 rfl rfl (by omega) (ho.rd.some (by simp [lgE]; omega))) rfl (fun a hF => ?_)
          refine r_qg (i := 13) rfl (by kernel_rfl) (by kernel_rfl) rfl (by kernel_rfl) (fun _ _ _ _ h => h) hF hS rfl (q_fieldAddrE fl100_0 (by decide) rfl) rfl (fun a hF => ?_)
          refine r_qg (i := 14) rfl (by kernel_rfl) (by kernel_rfl) rfl (by kernel_rfl) (fun _ _ _ _ h => h) hF hS rfl (q_loadL (off := 0) (i := ((k : Int) - 1).toNat) (v := .int .i64 ((s.logs[k - 1]?.map Lg.fo).getD 0)) ty3 rfl ho.rd (show (lgE s.logs)[((k : Int) - 1).toNat]? = some (s.logs[k - 1]).c by rw [show ((k : Int) - 1).toNat = k - 1 by omega]; simp [lgE, show k - 1 < s.logs.length by omega]) (by decide) rfl (by simp [ldv, Lg.c, show k - 1 < s.logs.length by omega])) rfl (fun a hF => ?_)
          refine r_qg (i := 15) rfl (by kernel_rfl) (by kernel_rfl) rfl (by kernel_rfl) (fun _ _ _ _ h => h) hF hS rfl (q_fieldAddr fl100_0 (by decide) rfl) rfl (fun a hF => ?_)
          refine r_qg (i := 16) rfl (by kernel_rfl) (by kernel_rfl) rfl (by kernel_rfl) (fun _ _ _ _ h => h) hF hS rfl (q_load ty3 rfl (i := 0) rfl rfl rfl (show ldv false 1 l.c 0 = some (.int .i64 l.fo) from rfl)) rfl (fun a hF => ?_)
          refine r_qg (i := 17) rfl (by kernel_rfl) (by kernel_rfl) rfl (by kernel_rfl) (fun _ _ _ _ h => h) hF hS rfl (q_geq rfl rfl) rfl (fun a hF => ?_)
          refine r_qg (i := 18) rfl (by kernel_rfl) (by kernel_rfl) rfl (by kernel_rfl) (fun _ _ _ _ h => h) hF hS rfl (q_pick (b := true) rfl rfl) rfl (fun a hF => ?_)
          refine r_q (i := 19) rfl (by kernel_rfl) (by kernel_rfl) rfl (by kernel_rfl) (fun _ _ _ _ h => h) hF hS (q_pick (b := false) rfl rfl) rfl (fun a hF => ?_)
          refine r_q (i := 20) rfl (by kernel_rfl) (by kernel_rfl) rfl (by kernel_rfl) (fun _ _ _ _ h => h) hF hS (q_move rfl) rfl (fun a hF => ?_)
          refine spd hF (s := 45) rfl (fun hc45 hF => ?_) (fun hc45 hF => ?_)
          · refine r_no (b := true) (i := 21) rfl (by kernel_rfl) (by kernel_rfl) rfl (by kernel_rfl) (fun _ _ _ _ h => h) hF hS rfl rfl rfl (fun a hF => ?_)
            refine r_no (b := true) (i := 22) rfl (by kernel_rfl) (by kernel_rfl) rfl (by kernel_rfl) (fun _ _ _ _ h => h) hF hS rfl rfl rfl (fun a hF => ?_)
            refine r_no (b := true) (i := 23) rfl (by kernel_rfl) (by kernel_rfl) rfl (by kernel_rfl) (fun _ _ _ _ h => h) hF hS rfl rfl rfl (fun a hF => ?_)
            refine r_no (b := true) (i := 24) rfl (by kernel_rfl) (by kernel_rfl) rfl (by kernel_rfl) (fun _ _ _ _ h => h) hF hS rfl rfl rfl (fun a hF => ?_)
            refine r_q (i := 25) rfl (by kernel_rfl) (by kernel_rfl) rfl (by kernel_rfl) (fun _ _ _ _ h => h) hF hS (q_pick (b := true) rfl rfl) rfl (fun a hF => ?_)
            refine r_done (by kernel_rfl) ?_
            refine hK18 _ _ ?_
            refine c_true hF rfl ?_
            refine c_seq (fun K21 hK21 => ?_)
            refine c_reg ?_
            refine n_q hF hS (q_assign rfl) rfl (fun a hF => ?_)
            refine hK21 _ _ ?_
            refine c_ret ?_
            repeat (first | refine ret_then ?_ | refine ret_blk ?_)
            refine c_ret' (P := Tryd.prog) (fn := Tryd.f13) rfl hF hS (.tmp rfl .nil) ⟨_, rfl, ?_⟩
            have hbad : lgB s.logs k = false := by first | exact lgB_bad1 hl? hc29 | exact lgB_bad2 hl? (by omega) (by omega) | exact lgB_bad3 hl? (by simpa using hc50)
            refine ⟨?_, hS.same⟩
            rw [checkN_no (logsN_no hlt hbad)]; rfl
          · refine r_qg (i := 21) rfl (by kernel_rfl) (by kernel_rfl) rfl (by kernel_rfl) (fun _ _ _ _ h => h) hF hS rfl (q_fieldAddr fl100_1 (by decide) rfl) rfl (fun a hF => ?_)
            refine r_qg (i := 22) rfl (by kernel_rfl) (by kernel_rfl) rfl (by kernel_rfl) (fun _ _ _ _ h => h) hF hS rfl (q_load ty31 rfl (i := 0) rfl rfl rfl (show ldv false 1 l.c 1 = some (.slice l.ea l.es.length l.ec) from rfl)) rfl (fun a hF => ?_)
            refine r_one (i := 23) (by kernel_rfl) ?_
            have hsub := hS.sub
            refine r_lig rfl rfl hF rfl (fun K22 hK22 => l_call en45 hF rfl rfl (fine_c l.es l.ea l.ec hlo.len _ _ hS.fz hg hlo.rd hlo.en) (fun v22 w hR a hF => ?_))
            obtain ⟨rfl, hc⟩ := hR
            replace hS := hS.call0 hc
            refine hK22 _ _ _ hS (fun _ h => h) ?_
            refine r_qg (i := 24) rfl (by kernel_rfl) (by kernel_rfl) rfl (by kernel_rfl) (fun _ _ _ _ h => h) hF hS rfl (q_not rfl) rfl (fun a hF => ?_)
            refine r_q (i := 25) rfl (by kernel_rfl) (by kernel_rfl) rfl (by kernel_rfl) (fun _ _ _ _ h => h) hF hS (q_pick (b := false) rfl rfl) rfl (fun a hF => ?_)
            refine r_done (by kernel_rfl) ?_
            refine hK18 _ _ ?_
            refine sp hF (s := 50) rfl (fun hc50 hF => ?_) (fun hc50 hF => ?_)
            · refine c_true hF rfl ?_
              refine c_seq (fun K23 hK23 => ?_)
              refine c_reg ?_
              refine n_q hF hS (q_assign rfl) rfl (fun a hF => ?_)
              refine hK23 _ _ ?_
              refine c_ret ?_
              repeat (first | refine ret_then ?_ | refine ret_blk ?_)
              refine c_ret' (P := Tryd.prog) (fn := Tryd.f13) rfl hF hS (.tmp rfl .nil) ⟨_, rfl, ?_⟩
              have hbad : lgB s.logs k = false := by first | exact lgB_bad1 hl? hc29 | exact lgB_bad2 hl? (by omega) (by omega) | exact lgB_bad3 hl? (by simpa using hc50)
              refine ⟨?_, hS.same⟩
              rw [checkN_no (logsN_no hlt hbad)]; rfl
            · refine c_false hF rfl ?_
              refine wp_skip ?_
              refine hK14 _ _ ?_
              refine c_reg ?_
              refine n_q hF hS (q_addI rfl rfl (by omega)) rfl (fun a hF => ?_)
              refine n_q hF hS (q_move rfl) rfl (fun a hF => ?_)
              have hok : lgB s.logs k = true := lgB_ok hl? hc29 (by omega) (by simpa using hc50)
              exact ⟨k + 1, _, (by show s.logs.length - (k + 1) < s.logs.length - k; omega), hl0, hF.back ⟨rfl, trivial⟩ rfl (by repeat first | exact Ext.refl _ _ | refine Ext.rem' rfl ?_ | refine Ext.push rfl ?_), hS.lose (.cons _ (.refl _)), ⟨by show k + 1 ≤ s.logs.length; omega, fun j hj => by rcases Nat.lt_succ_iff_lt_or_eq.1 hj with h | rfl; exact hJ2 j h; exact hok⟩⟩
        · refine r_no (b := false) (i := 8) rfl (by kernel_rfl) (by kernel_rfl) rfl (by kernel_rfl) (fun _ _ _ _ h => h) hF hS rfl rfl rfl (fun a hF => ?_)
          refine r_no (b := false) (i := 9) rfl (by kernel_rfl) (by kernel_rfl) rfl (by kernel_rfl) (fun _ _ _ _ h => h) hF hS rfl rfl rfl (fun a hF => ?_)
          refine r_no (b := false) (i := 10) rfl (by kernel_rfl) (by kernel_rfl) rfl (by kernel_rfl) (fun _ _ _ _ h => h) hF hS rfl rfl rfl (fun a hF => ?_)
          refine r_no (b := false) (i := 11) rfl (by kernel_rfl) (by kernel_rfl) rfl (by kernel_rfl) (fun _ _ _ _ h => h) hF hS rfl rfl rfl (fun a hF => ?_)
          refine r_no (b := false) (i := 12) rfl (by kernel_rfl) (by kernel_rfl) rfl (by kernel_rfl) (fun _ _ _ _ h => h) hF hS rfl rfl rfl (fun a hF => ?_)
          refine r_no (b := false) (i := 13) rfl (by kernel_rfl) (by kernel_rfl) rfl (by kernel_rfl) (fun _ _ _ _ h => h) hF hS rfl rfl rfl (fun a hF => ?_)
          refine r_no (b := false) (i := 14) rfl (by kernel_rfl) (by kernel_rfl) rfl (by kernel_rfl) (fun _ _ _ _ h => h) hF hS rfl rfl rfl (fun a hF => ?_)
          refine r_no (b := false) (i := 15) rfl (by kernel_rfl) (by kernel_rfl) rfl (by kernel_rfl) (fun _ _ _ _ h => h) hF hS rfl rfl rfl (fun a hF => ?_)
          refine r_no (b := false) (i := 16) rfl (by kernel_rfl) (by kernel_rfl) rfl (by kernel_rfl) (fun _ _ _ _ h => h) hF hS rfl rfl rfl (fun a hF => ?_)
          refine r_no (b := false) (i := 17) rfl (by kernel_rfl) (by kernel_rfl) rfl (by kernel_rfl) (fun _ _ _ _ h => h) hF hS rfl rfl rfl (fun a hF => ?_)
          refine r_qg (i := 18) rfl (by kernel_rfl) (by kernel_rfl) rfl (by kernel_rfl) (fun _ _ _ _ h => h) hF hS rfl (q_pick (b := false) rfl rfl) rfl (fun a hF => ?_)
          refine r_q (i := 19) rfl (by kernel_rfl) (by kernel_rfl) rfl (by kernel_rfl) (fun _ _ _ _ h => h) hF hS (q_pick (b := false) rfl rfl) rfl (fun a hF => ?_)
          refine r_q (i := 20) rfl (by kernel_rfl) (by kernel_rfl) rfl (by kernel_rfl) (fun _ _ _ _ h => h) hF hS (q_move rfl) rfl (fun a hF => ?_)
          refine r_qg (i := 21) rfl (by kernel_rfl) (by kernel_rfl) rfl (by kernel_rfl) (fun _ _ _ _ h => h) hF hS rfl (q_fieldAddr fl100_1 (by decide) rfl) rfl (fun a hF => ?_)
          refine r_qg (i := 22) rfl (by kernel_rfl) (by kernel_rfl) rfl (by kernel_rfl) (fun _ _ _ _ h => h) hF hS rfl (q_load ty31 rfl (i := 0) rfl rfl rfl (show ldv false 1 l.c 1 = some (.slice l.ea l.es.length l.ec) from rfl)) rfl (fun a hF => ?_)
          refine r_one (i := 23) (by kernel_rfl) ?_
          have hsub := hS.sub
          refine r_lig rfl rfl hF rfl (fun K24 hK24 => l_call en45 hF rfl rfl (fine_c l.es l.ea l.ec hlo.len _ _ hS.fz hg hlo.rd hlo.en) (fun v24 w hR a hF => ?_))
          obtain ⟨rfl, hc⟩ := hR
          replace hS := hS.call0 hc
          refine hK24 _ _ _ hS (fun _ h => h) ?_
          refine r_qg (i := 24) rfl (by kernel_rfl) (by kernel_rfl) rfl (by kernel_rfl) (fun _ _ _ _ h => h) hF hS rfl (q_not rfl) rfl (fun a hF => ?_)
          refine r_q (i := 25) rfl (by kernel_rfl) (by kernel_rfl) rfl (by kernel_rfl) (fun _ _ _ _ h => h) hF hS (q_pick (b := false) rfl rfl) rfl (fun a hF => ?_)
          refine r_done (by kernel_rfl) ?_
          refine hK18 _ _ ?_
          refine sp hF (s := 50) rfl (fun hc50 hF => ?_) (fun hc50 hF => ?_)
          · refine c_true hF rfl ?_
            refine c_seq (fun K25 hK25 => ?_)
            refine c_reg ?_
            refine n_q hF hS (q_assign rfl) rfl (fun a hF => ?_)
            refine hK25 _ _ ?_
            refine c_ret ?_
            repeat (first | refine ret_then ?_ | refine ret_blk ?_)
            refine c_ret' (P := Tryd.prog) (fn := Tryd.f13) rfl hF hS (.tmp rfl .nil) ⟨_, rfl, ?_⟩
            have hbad : lgB s.logs k = false := by first | exact lgB_bad1 hl? hc29 | exact lgB_bad2 hl? (by omega) (by omega) | exact lgB_bad3 hl? (by simpa using hc50)
            refine ⟨?_, hS.same⟩
            rw [checkN_no (logsN_no hlt hbad)]; rfl
          · refine c_false hF rfl ?_
            refine wp_skip ?_
            refine hK14 _ _ ?_
            refine c_reg ?_
            refine n_q hF hS (q_addI rfl rfl (by omega)) rfl (fun a hF => ?_)
            refine n_q hF hS (q_move rfl) rfl (fun a hF => ?_)
            have hok : lgB s.logs k = true := lgB_ok hl? hc29 (by omega) (by simpa using hc50)
            exact ⟨k + 1, _, (by show s.logs.length - (k + 1) < s.logs.length - k; omega), hl0, hF.back ⟨rfl, trivial⟩ rfl (by repeat first | exact Ext.refl _ _ | refine Ext.rem' rfl ?_ | refine Ext.push rfl ?_), hS.lose (.cons _ (.refl _)), ⟨by show k + 1 ≤ s.logs.length; omega, fun j hj => by rcases Nat.lt_succ_iff_lt_or_eq.1 hj with h | rfl; exact hJ2 j h; exact hok⟩⟩
    · refine c_false hF rfl ?_
      refine c_exit ?_
      refine hK10 _ _ ?_
      refine c_seq (fun K26 hK26 => ?_)
      refine c_reg ?_
      refine n_q hF hS (q_assign rfl) rfl (fun a hF => ?_)
      refine hK26 _ _ ?_
      refine c_ret ?_
      repeat (first | refine ret_then ?_ | refine ret_blk ?_)
      refine c_ret' (P := Tryd.prog) (fn := Tryd.f13) rfl hF hS (.tmp rfl .nil) ⟨_, rfl, ?_⟩
      refine ⟨?_, hS.same⟩
      rw [checkN_yes hc16 (logsN_yes (fun j hj => hJ2 j (by omega)))]; rfl
end Go.Proofs.YtneokajhmonpaaaDoor
namespace Go.Proofs.YtneokajhmonpaaaDoor
open Go Go.RowKit Go.W
set_option maxRecDepth 10000
namespace T22
theorem en13 : enS Tryd.prog 13 = true := by kernel_rfl
theorem en44 : enS Tryd.prog 44 = true := by kernel_rfl
theorem en111 : enS Tryd.prog 111 = true := by kernel_rfl
theorem pl145 : plS Tryd.prog 145 = some [(0, 3)] := by kernel_rfl
theorem ty26 : tyS Tryd.prog 26 = some (true, 3) := by kernel_rfl
theorem ty100 : tyS Tryd.prog 100 = some (true, 2) := by kernel_rfl
theorem zr145 : zrS Tryd.prog 145 = some [.int .i64 0, .int .i64 0, .slice none 0 0] := by kernel_rfl
theorem mo : Tryd.prog.follows .mixedOrders = true := by kernel_rfl
end T22
open T22

theorem open_c (s : Sto) (f : Int) (w : World) (H : Froz) (hz : Fz H w) (hg : Gl 0 1 H) (ho : StOK H s) :
    CallsR Tryd.prog 46 [.agg s.c.toArray, .int .i64 f] w fun v w' => ∃ p H', v = .tuple #[.pointer p, .int .i64 (openE s f)] ∧ Le H H' ∧ (openE s f = 0 → ∃ b, p = some ⟨b, 0, none⟩ ∧ HR H' b s.c) ∧ St ⟨w, H, []⟩ H' [] w' := by
  refine calls_start Tryd.func46 rfl Tryd.ntmps46 rfl (fun a hF => ?_)
  have hS := St.start w H hz
  refine c_seq (fun K1 hK1 => ?_)
  refine c_reg ?_
  refine n_l rfl (fun K2 hK2 => l_boxA hF hS rfl rfl (fun a w b1 hF hS => hK2 _ _ ?_))
  refine n_q hF hS (q_assign rfl) rfl (fun a hF => ?_)
  refine n_q hF hS (q_assign rfl) rfl (fun a hF => ?_)
  refine hK1 _ _ ?_
  refine c_seq (fun K3 hK3 => ?_)
  refine c_seq (fun K4 hK4 => ?_)
  refine c_reg ?_
  refine n_q hF hS (q_load0 ty26 rfl (i := 0) rfl rfl rfl) rfl (fun a hF => ?_)
  refine n_l rfl (fun K5 hK5 => l_call en13 hF rfl rfl (SCheck_c s _ _ hS.fz hg ho) (fun v5 w hR a hF => ?_))
  obtain ⟨rfl, hc⟩ := hR
  replace hS := hS.call0 hc
  refine hK5 _ _ ?_
  refine n_q hF hS (q_assign rfl) rfl (fun a hF => ?_)
  refine hK4 _ _ ?_
  refine c_seq (fun K6 hK6 => ?_)
  refine c_reg ?_
  refine n_q hF hS (q_move rfl) rfl (fun a hF => ?_)
  refine n_q hF hS (q_neI rfl rfl) rfl (fun a hF => ?_)
  refine hK6 _ _ ?_
  refine spn hF (s := 10) rfl (fun hc10 hF => ?_) (fun hc10 hF => ?_)
  · refine c_true hF rfl ?_
    refine c_seq (fun K7 hK7 => ?_)
    refine c_reg ?_
    refine n_q hF hS (q_move rfl) rfl (fun a hF => ?_)
    refine n_q hF hS (q_assign rfl) rfl (fun a hF => ?_)
    refine n_q hF hS (q_assign rfl) rfl (fun a hF => ?_)
    refine hK7 _ _ ?_
    refine c_ret ?_
    repeat (first | refine ret_then ?_ | refine ret_blk ?_)
    refine c_ret' (P := Tryd.prog) (fn := Tryd.f46) rfl hF hS (.tmp rfl (.tmp rfl .nil)) ⟨_, rfl, ?_⟩
    have he : openE s f = checkN s := by rw [openE_def, if_neg hc10]
    exact ⟨none, H, by rw [he]; rfl, Le.refl H, fun h => absurd (he ▸ h) hc10, hS.same⟩
  · refine c_false hF rfl ?_
    refine wp_skip ?_
    refine hK3 _ _ ?_
    refine c_seq (fun K8 hK8 => ?_)
    refine c_seq (fun K9 hK9 => ?_)
    refine c_reg ?_
    refine n_q hF hS (q_move rfl) rfl (fun a hF => ?_)
    refine n_l rfl (fun K10 hK10 => l_call en44 hF rfl rfl (isFolder_c f _ _ hS.fz) (fun v10 w hR a hF => ?_))
    obtain ⟨rfl, hc⟩ := hR
    replace hS := hS.call0 hc
    refine hK10 _ _ ?_
    refine n_q hF hS (q_not rfl) rfl (fun a hF => ?_)
    refine hK9 _ _ ?_
    refine spn hF (s := 14) rfl (fun hc14 hF => ?_) (fun hc14 hF => ?_)
    · refine c_true hF rfl ?_
      refine c_seq (fun K11 hK11 => ?_)
      refine c_reg ?_
      refine n_q hF hS (q_assign rfl) rfl (fun a hF => ?_)
      refine n_q hF hS (q_assign rfl) rfl (fun a hF => ?_)
      refine hK11 _ _ ?_
      refine c_ret ?_
      repeat (first | refine ret_then ?_ | refine ret_blk ?_)
      refine c_ret' (P := Tryd.prog) (fn := Tryd.f46) rfl hF hS (.tmp rfl (.tmp rfl .nil)) ⟨_, rfl, ?_⟩
      have he : openE s f = 1 := by rw [openE_def, if_pos hc10, if_neg hc14]
      exact ⟨none, H, by rw [he]; rfl, Le.refl H, (fun h => by rw [he] at h; cases h), hS.same⟩
    · refine c_false hF rfl ?_
      refine wp_skip ?_
      refine hK8 _ _ ?_
      refine c_seq (fun K12 hK12 => ?_)
      refine c_reg ?_
      refine n_q hF hS (q_load0 ty26 rfl (i := 0) rfl rfl rfl) rfl (fun a hF => ?_)
      refine n_q hF hS (q_build (P := Tryd.prog) (T := 145) (cs := [_, _, _]) zr145 pl145 rfl (by first | rfl | simp [bld, spl, dc_length, Hd.c_len, En.c_len, List.length_replicate, List.length_cons, List.length_nil, List.length_append])) rfl (fun a hF => ?_)
      refine n_l rfl (fun K13 hK13 => l_boxA hF hS rfl rfl (fun a w b2 hF hS => hK13 _ _ ?_))
      refine n_q hF hS (q_assign rfl) rfl (fun a hF => ?_)
      refine n_q hF hS (q_assign rfl) rfl (fun a hF => ?_)
      refine hK12 _ _ ?_
      refine c_ret ?_
      repeat (first | refine ret_then ?_ | refine ret_blk ?_)
      refine c_ret' (P := Tryd.prog) (fn := Tryd.f46) rfl hF hS (.tmp rfl (.tmp rfl .nil)) ⟨_, rfl, ?_⟩
      have he : openE s f = 0 := by rw [openE_def, if_pos hc10, if_pos hc14]
      obtain ⟨H5, hH5, hle5, hS5⟩ := hS.freeze' (i := 0) rfl
      exact ⟨_, H5, by rw [he]; rfl, hS5.le, fun _ => ⟨_, rfl, by rw [hH5]; exact frz_hr⟩, hS5.nil⟩

theorem bsLog_c (ls : List Lg) (la : Option Addr) (lc : Nat) (f : Int) (hn : ls.length ≤ 1000000) (hs : Srt ls) (w : World) (H : Froz) (hz : Fz H w) (hr : RdL H la 2 (lgE ls)) :
    CallsR Tryd.prog 110 [.slice la ls.length lc, .int .i64 f, .func (.func 111) #[] #[]] w fun v w' => ∃ p : Nat, v = .tuple #[.int .i64 (p : Int), .bool (atF ls f p)] ∧ Pos ls f p ∧ St ⟨w, H, []⟩ H [] w' := by
  refine calls_start Tryd.func110 rfl Tryd.ntmps110 rfl (fun a hF => ?_)
  have hS := St.start w H hz
  refine c_seq (fun K1 hK1 => ?_)
  refine c_reg ?_
  refine n_q hF hS (q_assign rfl) rfl (fun a hF => ?_)
  refine n_q hF hS (q_assign rfl) rfl (fun a hF => ?_)
  refine hK1 _ _ ?_
  refine c_seq (fun K2 hK2 => ?_)
  refine c_reg ?_
  refine n_q hF hS (q_move rfl) rfl (fun a hF => ?_)
  refine n_q hF hS (q_len Tryd.underlying24 rfl rfl) rfl (fun a hF => ?_)
  refine n_q hF hS (q_assign rfl) rfl (fun a hF => ?_)
  refine hK2 _ _ ?_
  refine c_seq (fun K3 hK3 => ?_)
  refine c_reg ?_
  refine n_q hF hS (q_move rfl) rfl (fun a hF => ?_)
  refine n_q hF hS (q_assign rfl) rfl (fun a hF => ?_)
  refine n_q hF hS (q_assign rfl) rfl (fun a hF => ?_)
  refine hK3 _ _ ?_
  refine c_seq (fun K4 hK4 => ?_)
  refine c_block ?_
  refine c_loopS hF [9, 10, 11, 15, 16, 17, 18, 19, 20, 21, 22, 23, 24, 25, 26, 27, 28, 29, 30, 31, 32, 33, 34]
    (fun g : Nat × Nat => [(9, .int .i64 (g.1 : Int)), (10, .int .i64 (g.2 : Int))])
    (fun _ => [])
    (fun g _ => g.1 ≤ g.2 ∧ g.2 ≤ ls.length ∧ (∀ (j : Nat) (l : Lg), j < g.1 → ls[j]? = some l → l.fo < f) ∧ (∀ (j : Nat) (l : Lg), g.2 ≤ j → ls[j]? = some l → f ≤ l.fo))
    (fun g => g.2 - g.1) ((0, ls.length)) ⟨rfl, rfl, trivial⟩ (hS) (⟨Nat.zero_le _, Nat.le_refl _, fun j l h => absurd h (Nat.not_lt_zero _), fun j l h hl => absurd (List.getElem?_eq_some_iff.1 hl).1 (by show ¬ j < ls.length; have h9 : ls.length ≤ j := h; omega)⟩) ?_
  clear hF hS
  intro g a w H hle hF hS hJ
  replace hr := hr.mono hle
  have hl0 := Le.refl H
  obtain ⟨i, j⟩ := g
  obtain ⟨hij, hjn, hlo, hhi⟩ := hJ
  try dsimp only at hF hS hij hjn hlo hhi
  refine c_seq (fun K5 hK5 => ?_)
  refine c_seq (fun K6 hK6 => ?_)
  refine c_reg ?_
  refine n_q hF hS (q_move rfl) rfl (fun a hF => ?_)
  refine n_q hF hS (q_move rfl) rfl (fun a hF => ?_)
  refine n_q hF hS (q_lss rfl rfl) rfl (fun a hF => ?_)
  refine hK6 _ _ ?_
  refine spd hF (s := 17) rfl (fun hc17 hF => ?_) (fun hc17 hF => ?_)
  · refine c_true hF rfl ?_
    refine wp_skip ?_
    refine hK5 _ _ ?_
    refine c_block ?_
    refine c_seq (fun K7 hK7 => ?_)
    refine c_reg ?_
    refine n_q hF hS (q_move rfl) rfl (fun a hF => ?_)
    refine n_q hF hS (q_move rfl) rfl (fun a hF => ?_)
    refine n_q hF hS (q_addI rfl rfl (by omega)) rfl (fun a hF => ?_)
    refine n_q hF hS (q_cv64 (a := i + j) Tryd.underlying3 Tryd.underlying178 rfl (by omega)) rfl (fun a hF => ?_)
    refine n_q hF hS (q_shrC (a := i + j) (m := 2) rfl rfl (by decide) rfl) rfl (fun a hF => ?_)
    refine n_q hF hS (q_cvI Tryd.underlying178 Tryd.underlying3 rfl (by omega)) rfl (fun a hF => ?_)
    refine n_q hF hS (q_assign rfl) rfl (fun a hF => ?_)
    refine hK7 _ _ ?_
    refine c_seq (fun K8 hK8 => ?_)
    refine c_reg ?_
    have hlt : (i + j) / 2 < ls.length := by omega
    obtain ⟨l, hld⟩ : ∃ q, q = ls[(i + j) / 2] := ⟨_, rfl⟩
    have hl? : ls[(i + j) / 2]? = some l := by rw [hld]; simp [hlt]
    have hel : (lgE ls)[(i + j) / 2]? = some l.c := by simp [lgE, hlt, hld]
    refine n_q hF hS (q_move rfl) rfl (fun a hF => ?_)
    refine n_q hF hS (q_move rfl) rfl (fun a hF => ?_)
    refine n_q hF hS (q_move rfl) rfl (fun a hF => ?_)
    refine n_q hF hS (q_indexAddrS Tryd.underlying24 ty100 rfl rfl (by omega) (hr.some (by simp [lgE]; omega))) rfl (fun a hF => ?_)
    refine n_q hF hS (q_loadL0 (i := (i + j) / 2) (v := .agg l.c.toArray) ty100 rfl hr hel (by decide) rfl rfl) rfl (fun a hF => ?_)
    refine n_q hF hS (q_move rfl) rfl (fun a hF => ?_)
    refine n_l rfl (fun K9 hK9 => l_callv en111 hF rfl rfl rfl (log1_c l.fo f _ rfl _ _ hS.fz) (fun v9 w hR a hF => ?_))
    obtain ⟨rfl, hc⟩ := hR
    replace hS := hS.call0 hc
    refine hK9 _ _ ?_
    refine n_q hF hS (q_lss rfl rfl) rfl (fun a hF => ?_)
    refine hK8 _ _ ?_
    refine spd hF (s := 31) rfl (fun hc31 hF => ?_) (fun hc31 hF => ?_)
    · refine c_true hF rfl ?_
      refine c_reg ?_
      refine n_q hF hS (q_move rfl) rfl (fun a hF => ?_)
      refine n_q hF hS (q_addI rfl rfl (by omega)) rfl (fun a hF => ?_)
      refine n_q hF hS (q_assign rfl) rfl (fun a hF => ?_)
      exact ⟨((i + j) / 2 + 1, j), _, (by show j - ((i + j) / 2 + 1) < j - i; omega), hl0, hF.back ⟨rfl, rfl, trivial⟩ rfl (by repeat first | exact Ext.refl _ _ | refine Ext.rem' rfl ?_ | refine Ext.push rfl ?_), hS.lose (.refl _), ⟨by show (i + j) / 2 + 1 ≤ j; omega, hjn, lo_step hs hl? (cmpI_lt hc31), hhi⟩⟩
    · refine c_false hF rfl ?_
      refine c_reg ?_
      refine n_q hF hS (q_move rfl) rfl (fun a hF => ?_)
      refine n_q hF hS (q_assign rfl) rfl (fun a hF => ?_)
      exact ⟨(i, (i + j) / 2), _, (by show (i + j) / 2 - i < j - i; omega), hl0, hF.back ⟨rfl, rfl, trivial⟩ rfl (by repeat first | exact Ext.refl _ _ | refine Ext.rem' rfl ?_ | refine Ext.push rfl ?_), hS.lose (.refl _), ⟨by show i ≤ (i + j) / 2; omega, by show (i + j) / 2 ≤ ls.length; omega, hlo, hi_step hs hl? (cmpI_ge hc31)⟩⟩
  · refine c_false hF rfl ?_
    refine c_exit ?_
    refine hK4 _ _ ?_
    refine c_seq (fun K10 hK10 => ?_)
    refine c_reg ?_
    refine n_q hF hS (q_move rfl) rfl (fun a hF => ?_)
    refine n_q hF hS (q_move rfl) rfl (fun a hF => ?_)
    refine n_q hF hS (q_move rfl) rfl (fun a hF => ?_)
    refine n_q hF hS (q_lss rfl rfl) rfl (fun a hF => ?_)
    refine n_q hF hS (q_move rfl) rfl (fun a hF => ?_)
    refine spd hF (s := 39) rfl (fun hc39 hF => ?_) (fun hc39 hF => ?_)
    · refine n_yes hF rfl ?_
      refine n_q hF hS (q_move rfl) rfl (fun a hF => ?_)
      refine n_yes hF rfl ?_
      refine n_q hF hS (q_move rfl) rfl (fun a hF => ?_)
      refine n_yes hF rfl ?_
      refine n_q hF hS (q_move rfl) rfl (fun a hF => ?_)
      refine n_yes hF rfl ?_
      refine n_q hF hS (q_indexAddrS Tryd.underlying24 ty100 rfl rfl (by omega) (hr.some (by simp [lgE]; omega))) rfl (fun a hF => ?_)
      refine n_yes hF rfl ?_
      have hlt : i < ls.length := by omega
      obtain ⟨l, hld⟩ : ∃ q, q = ls[i] := ⟨_, rfl⟩
      have hl? : ls[i]? = some l := by rw [hld]; simp [hlt]
      have hel : (lgE ls)[i]? = some l.c := by simp [lgE, hlt, hld]
      refine n_q hF hS (q_loadL0 (i := i) (v := .agg l.c.toArray) ty100 rfl hr hel (by decide) rfl rfl) rfl (fun a hF => ?_)
      refine n_yes hF rfl ?_
      refine n_q hF hS (q_move rfl) rfl (fun a hF => ?_)
      refine n_yes hF rfl ?_
      refine n_l rfl (fun K11 hK11 => l_callv en111 hF rfl rfl rfl (log1_c l.fo f _ rfl _ _ hS.fz) (fun v11 w hR a hF => ?_))
      obtain ⟨rfl, hc⟩ := hR
      replace hS := hS.call0 hc
      refine hK11 _ _ ?_
      refine n_yes hF rfl ?_
      refine n_q hF hS (q_eqI rfl rfl) rfl (fun a hF => ?_)
      refine n_q hF hS (q_pick (b := true) rfl rfl) rfl (fun a hF => ?_)
      refine n_q hF hS (q_assign rfl) rfl (fun a hF => ?_)
      refine n_q hF hS (q_assign rfl) rfl (fun a hF => ?_)
      refine hK10 _ _ ?_
      refine c_ret ?_
      repeat (first | refine ret_then ?_ | refine ret_blk ?_)
      refine c_ret' (P := Tryd.prog) (fn := Tryd.f110) rfl hF hS (.tmp rfl (.tmp rfl .nil)) ⟨_, rfl, ?_⟩
      have hje : j = i := by omega
      subst hje
      refine ⟨j, ?_, ⟨hjn, hlo, hhi⟩, hS.same⟩
      have ha : atF ls f j = decide (l.fo = f) := by unfold atF; rw [hl?]
      rw [ha, ← cmpI_eq l.fo f]; rfl
    · refine n_no hF (b := false) rfl rfl rfl (fun a hF => ?_)
      refine n_no hF (b := false) rfl rfl rfl (fun a hF => ?_)
      refine n_no hF (b := false) rfl rfl rfl (fun a hF => ?_)
      refine n_no hF (b := false) rfl rfl rfl (fun a hF => ?_)
      refine n_no hF (b := false) rfl rfl rfl (fun a hF => ?_)
      refine n_no hF (b := false) rfl rfl rfl (fun a hF => ?_)
      refine n_no hF (b := false) rfl rfl rfl (fun a hF => ?_)
      refine n_no hF (b := false) rfl rfl rfl (fun a hF => ?_)
      refine n_q hF hS (q_pick (b := false) rfl rfl) rfl (fun a hF => ?_)
      refine n_q hF hS (q_assign rfl) rfl (fun a hF => ?_)
      refine n_q hF hS (q_assign rfl) rfl (fun a hF => ?_)
      refine hK10 _ _ ?_
      refine c_ret ?_
      repeat (first | refine ret_then ?_ | refine ret_blk ?_)
      refine c_ret' (P := Tryd.prog) (fn := Tryd.f110) rfl hF hS (.tmp rfl (.tmp rfl .nil)) ⟨_, rfl, ?_⟩
      have hje : j = i := by omega
      subst hje
      refine ⟨j, ?_, ⟨hjn, hlo, hhi⟩, hS.same⟩
      have ha : atF ls f j = false := by unfold atF; rw [List.getElem?_eq_none (by omega)]
      rw [ha]; rfl
end Go.Proofs.YtneokajhmonpaaaDoor
namespace Go.Proofs.YtneokajhmonpaaaDoor
open Go Go.RowKit Go.W
set_option maxRecDepth 10000
namespace T23
theorem en83 : enS Tryd.prog 83 = true := by kernel_rfl
theorem en110 : enS Tryd.prog 110 = true := by kernel_rfl
theorem fl26_2 : flS Tryd.prog 26 2 = some (2, 1) := by kernel_rfl
theorem fl100_1 : flS Tryd.prog 100 1 = some (1, 1) := by kernel_rfl
theorem fl145_0 : flS Tryd.prog 145 0 = some (0, 3) := by kernel_rfl
theorem ty24 : tyS Tryd.prog 24 = some (false, 1) := by kernel_rfl
theorem ty31 : tyS Tryd.prog 31 = some (false, 1) := by kernel_rfl
theorem ty100 : tyS Tryd.prog 100 = some (true, 2) := by kernel_rfl
theorem mo : Tryd.prog.follows .mixedOrders = true := by kernel_rfl
end T23
open T23

theorem log_c (s : Sto) (b : Nat) (f : Int) (hs : Srt s.logs) (w : World) (H : Froz) (hz : Fz H w) (hb : HR H b s.c) (ho : StOK H s) :
    CallsR Tryd.prog 83 [.pointer (some ⟨b, 0, none⟩), .int .i64 f] w fun v w' => ∃ p : Nat, v = .tuple #[.int .i64 (p : Int), .bool (atF s.logs f p)] ∧ Pos s.logs f p ∧ St ⟨w, H, []⟩ H [] w' := by
  refine calls_start Tryd.func83 rfl Tryd.ntmps83 rfl (fun a hF => ?_)
  have hS := St.start w H hz
  refine c_seq (fun K1 hK1 => ?_)
  refine c_reg ?_
  refine n_q hF hS (q_assign rfl) rfl (fun a hF => ?_)
  refine n_q hF hS (q_assign rfl) rfl (fun a hF => ?_)
  refine hK1 _ _ ?_
  refine c_seq (fun K2 hK2 => ?_)
  refine c_reg ?_
  refine n_q hF hS (q_move rfl) rfl (fun a hF => ?_)
  refine n_q hF hS (q_nilCheck rfl) rfl (fun a hF => ?_)
  refine n_q hF hS (q_fieldAddr fl145_0 (by decide) rfl) rfl (fun a hF => ?_)
  refine n_q hF hS (q_fieldAddr fl26_2 (by decide) rfl) rfl (fun a hF => ?_)
  refine n_q hF hS (q_loadG (o := 0 + 0 + 2) (v := .slice s.la s.logs.length s.lc) ty24 rfl hb.h (Nat.le_of_ble_eq_true rfl) rfl rfl) rfl (fun a hF => ?_)
  refine n_q hF hS (q_move rfl) rfl (fun a hF => ?_)
  refine n_l rfl (fun K3 hK3 => l_call en110 hF rfl rfl (bsLog_c s.logs s.la s.lc f ho.len hs _ _ hS.fz ho.rd) (fun v3 w hR a hF => ?_))
  obtain ⟨p, rfl, hp, hc⟩ := hR
  replace hS := hS.call0 hc
  refine hK3 _ _ ?_
  refine n_q hF hS (q_extract (i := 0) rfl rfl) rfl (fun a hF => ?_)
  refine n_q hF hS (q_extract (i := 1) rfl rfl) rfl (fun a hF => ?_)
  refine n_q hF hS (q_assign rfl) rfl (fun a hF => ?_)
  refine n_q hF hS (q_assign rfl) rfl (fun a hF => ?_)
  refine hK2 _ _ ?_
  refine c_ret ?_
  repeat (first | refine ret_then ?_ | refine ret_blk ?_)
  refine c_ret' (P := Tryd.prog) (fn := Tryd.f83) rfl hF hS (.tmp rfl (.tmp rfl .nil)) ⟨_, rfl, ?_⟩
  exact ⟨p, rfl, hp, hS.same⟩

theorem entries_c (s : Sto) (b : Nat) (f : Int) (hs : Srt s.logs) (w : World) (H : Froz) (hz : Fz H w) (hb : HR H b s.c) (ho : StOK H s) :
    CallsR Tryd.prog 47 [.pointer (some ⟨b, 0, none⟩), .int .i64 f] w fun v w' => ∃ (p : Nat) (l : Lg), Pos s.logs f p ∧ ((atF s.logs f p = true ∧ s.logs[p]? = some l) ∨ (atF s.logs f p = false ∧ l = ⟨f, none, 0, []⟩)) ∧ v = .slice l.ea l.es.length l.ec ∧ St ⟨w, H, []⟩ H [] w' := by
  refine calls_start Tryd.func47 rfl Tryd.ntmps47 rfl (fun a hF => ?_)
  have hS := St.start w H hz
  refine c_seq (fun K1 hK1 => ?_)
  refine c_reg ?_
  refine n_q hF hS (q_assign rfl) rfl (fun a hF => ?_)
  refine hK1 _ _ ?_
  refine c_seq (fun K2 hK2 => ?_)
  refine c_reg ?_
  refine n_q hF hS (q_move rfl) rfl (fun a hF => ?_)
  refine n_q hF hS (q_makeFunc rfl rfl) rfl (fun a hF => ?_)
  refine n_q hF hS (q_assign rfl) rfl (fun a hF => ?_)
  refine hK2 _ _ ?_
  refine c_seq (fun K3 hK3 => ?_)
  refine c_seq (fun K4 hK4 => ?_)
  refine c_reg ?_
  refine n_q hF hS (q_move rfl) rfl (fun a hF => ?_)
  refine n_q hF hS (q_move rfl) rfl (fun a hF => ?_)
  refine n_l rfl (fun K5 hK5 => l_callv en83 hF rfl rfl rfl (log_c s b f hs _ _ hS.fz hb ho) (fun v5 w hR a hF => ?_))
  obtain ⟨p, rfl, hp, hc⟩ := hR
  replace hS := hS.call0 hc
  refine hK5 _ _ ?_
  refine n_q hF hS (q_move rfl) rfl (fun a hF => ?_)
  refine n_q hF hS (q_extract (i := 0) rfl rfl) rfl (fun a hF => ?_)
  refine n_q hF hS (q_extract (i := 1) rfl rfl) rfl (fun a hF => ?_)
  refine n_q hF hS (q_assign rfl) rfl (fun a hF => ?_)
  refine n_q hF hS (q_assign rfl) rfl (fun a hF => ?_)
  refine hK4 _ _ ?_
  refine c_seq (fun K6 hK6 => ?_)
  refine c_reg ?_
  refine n_q hF hS (q_move rfl) rfl (fun a hF => ?_)
  refine hK6 _ _ ?_
  refine sp hF (s := 16) rfl (fun hc16 hF => ?_) (fun hc16 hF => ?_)
  · refine c_true hF rfl ?_
    refine c_seq (fun K7 hK7 => ?_)
    refine c_reg ?_
    obtain ⟨l, hl?, hlf⟩ := atF_some hc16
    have hlt := (List.getElem?_eq_some_iff.1 hl?).1
    have hel : (lgE s.logs)[p]? = some l.c := by simp [lgE, hl?]
    refine n_q hF hS (q_move rfl) rfl (fun a hF => ?_)
    refine n_q hF hS (q_nilCheck rfl) rfl (fun a hF => ?_)
    refine n_q hF hS (q_fieldAddr fl145_0 (by decide) rfl) rfl (fun a hF => ?_)
    refine n_q hF hS (q_fieldAddr fl26_2 (by decide) rfl) rfl (fun a hF => ?_)
    refine n_q hF hS (q_loadG (o := 0 + 0 + 2) (v := .slice s.la s.logs.length s.lc) ty24 rfl hb.h (Nat.le_of_ble_eq_true rfl) rfl rfl) rfl (fun a hF => ?_)
    refine n_q hF hS (q_move rfl) rfl (fun a hF => ?_)
    refine n_q hF hS (q_indexAddrS Tryd.underlying24 ty100 rfl rfl (by omega) (ho.rd.some (by simp [lgE]; omega))) rfl (fun a hF => ?_)
    refine n_q hF hS (q_fieldAddrE fl100_1 (by decide) rfl) rfl (fun a hF => ?_)
    refine n_q hF hS (q_loadL (off := 1) (i := p) (v := .slice l.ea l.es.length l.ec) ty31 rfl ho.rd hel (by decide) rfl rfl) rfl (fun a hF => ?_)
    refine n_q hF hS (q_assign rfl) rfl (fun a hF => ?_)
    refine hK7 _ _ ?_
    refine c_ret ?_
    repeat (first | refine ret_then ?_ | refine ret_blk ?_)
    refine c_ret' (P := Tryd.prog) (fn := Tryd.f47) rfl hF hS (.tmp rfl .nil) ⟨_, rfl, ?_⟩
    exact ⟨p, l, hp, .inl ⟨hc16, hl?⟩, rfl, hS.same⟩
  · refine c_false hF rfl ?_
    refine wp_skip ?_
    refine hK3 _ _ ?_
    refine c_seq (fun K8 hK8 => ?_)
    refine c_reg ?_
    refine n_q hF hS (q_assign rfl) rfl (fun a hF => ?_)
    refine hK8 _ _ ?_
    refine c_ret ?_
    repeat (first | refine ret_then ?_ | refine ret_blk ?_)
    refine c_ret' (P := Tryd.prog) (fn := Tryd.f47) rfl hF hS (.tmp rfl .nil) ⟨_, rfl, ?_⟩
    exact ⟨p, ⟨f, none, 0, []⟩, hp, .inr ⟨hc16, rfl⟩, rfl, hS.same⟩
end Go.Proofs.YtneokajhmonpaaaDoor
namespace Go.Proofs.YtneokajhmonpaaaDoor
open Go Go.RowKit Go.W
set_option maxRecDepth 10000
namespace T24
theorem bt5 : byS Tryd.prog 5 = some 1 := by kernel_rfl
theorem bt48 : byS Tryd.prog 48 = some 72 := by kernel_rfl
theorem bt100 : byS Tryd.prog 100 = some 32 := by kernel_rfl
theorem ty5 : tyS Tryd.prog 5 = some (false, 1) := by kernel_rfl
theorem ty48 : tyS Tryd.prog 48 = some (true, 35) := by kernel_rfl
theorem ty100 : tyS Tryd.prog 100 = some (true, 2) := by kernel_rfl
theorem zr5 : zrS Tryd.prog 5 = some [.int .u8 0] := by kernel_rfl
theorem zr48 : zrS Tryd.prog 48 = some [.int .i64 0, .int .u8 0, .int .u8 0, .int .u8 0, .int .u8 0, .int .u8 0, .int .u8 0, .int .u8 0, .int .u8 0, .int .u8 0, .int .u8 0, .int .u8 0, .int .u8 0, .int .u8 0, .int .u8 0, .int .u8 0, .int .u8 0, .int .u8 0, .int .u8 0, .int .u8 0, .int .u8 0, .int .u8 0, .int .u8 0, .int .u8 0, .int .u8 0, .int .u8 0, .int .u8 0, .int .u8 0, .int .u8 0, .int .u8 0, .int .u8 0, .int .u8 0, .int .u8 0, .slice none 0 0, .bool false] := by kernel_rfl
theorem zr100 : zrS Tryd.prog 100 = some [.int .i64 0, .slice none 0 0] := by kernel_rfl
theorem mo : Tryd.prog.follows .mixedOrders = true := by kernel_rfl
end T24
open T24

theorem bClone_c (bs : List UInt8) (n : Nat) (a0 : Option Addr) (c : Nat) (hn : n ≤ 1000000) (w : World) (H : Froz) (hz : Fz H w) (hr : RdS H a0 n 1 (bc bs)) :
    CallsR Tryd.prog 84 [.slice a0 n c] w fun v w' => ∃ ad cp Lx, v = .slice ad n cp ∧ OwS 5 1 (.slice ad n cp) n (bc bs) Lx ∧ St ⟨w, H, []⟩ H Lx w' := by
  refine calls_start Tryd.func84 rfl Tryd.ntmps84 rfl (fun a hF => ?_)
  have hS := St.start w H hz
  refine c_seq (fun K1 hK1 => ?_)
  refine c_reg ?_
  refine n_q hF hS (q_assign rfl) rfl (fun a hF => ?_)
  refine hK1 _ _ ?_
  refine c_seq (fun K2 hK2 => ?_)
  refine c_seq (fun K3 hK3 => ?_)
  refine c_reg ?_
  refine n_q hF hS (q_move rfl) rfl (fun a hF => ?_)
  refine n_q hF hS (q_eqNilS Tryd.underlying46 rfl rfl) rfl (fun a hF => ?_)
  refine hK3 _ _ ?_
  refine sp hF (s := 4) rfl (fun hc4 hF => ?_) (fun hc4 hF => ?_)
  · refine c_true hF rfl ?_
    refine c_seq (fun K4 hK4 => ?_)
    refine c_reg ?_
    refine n_q hF hS (q_assign rfl) rfl (fun a hF => ?_)
    refine hK4 _ _ ?_
    refine c_ret ?_
    repeat (first | refine ret_then ?_ | refine ret_blk ?_)
    refine c_ret' (P := Tryd.prog) (fn := Tryd.f84) rfl hF hS (.tmp rfl .nil) ⟨_, rfl, ?_⟩
    have ha := isNone_some hc4
    subst ha
    have h0 := RdS.none_len hr
    refine ⟨none, 0, [], ?_, OwS_empty h0 (RdS.len hr), hS⟩
    show Value.slice none 0 0 = _
    rw [h0]
  · refine c_false hF rfl ?_
    refine wp_skip ?_
    refine hK2 _ _ ?_
    refine c_seq (fun K5 hK5 => ?_)
    refine c_reg ?_
    refine n_l rfl (fun K6 hK6 => l_buildO (els := []) Tryd.underlying46 ty5 zr5 hF hS rfl rfl rfl (by simp [Value.cells, dc_length, Hd.c_len, En.c_len, List.length_replicate, List.length_cons, List.length_nil, List.length_append]) rfl rfl rfl (fun a w b1 hF hS => hK6 _ _ ?_))
    refine n_q hF hS (q_move rfl) rfl (fun a hF => ?_)
    refine n_l rfl (fun K7 hK7 => l_append (L := []) Tryd.underlying46 ty5 zr5 bt5 hF hS rfl rfl (OwS.row0 _ _ _) (.slice Tryd.underlying46 hr (bc_all1 _)) (by omega) (by simp only [maxLen]; omega) rfl rfl (fun a w c3_2 ad3_2 Lx3_2 ho3_2 hF hS => hK7 _ _ ?_))
    rw [Nat.zero_add, List.nil_append] at ho3_2
    rw [Nat.zero_add] at hF
    rw [List.append_nil] at hS
    refine n_q hF hS (q_assign rfl) rfl (fun a hF => ?_)
    refine hK5 _ _ ?_
    refine c_ret ?_
    repeat (first | refine ret_then ?_ | refine ret_blk ?_)
    refine c_ret' (P := Tryd.prog) (fn := Tryd.f84) rfl hF hS (.tmp rfl .nil) ⟨_, rfl, ?_⟩
    exact ⟨_, _, _, rfl, ho3_2, hS⟩

theorem cloneE_c (es : List En) (a0 : Option Addr) (c : Nat) (hn : es.length ≤ 1000000) (w : World) (H : Froz) (hz : Fz H w) (hr : RdS H a0 es.length 35 (enE es).flatten) :
    CallsR Tryd.prog 62 [.slice a0 es.length c] w fun v w' => ∃ ad cp Lx, v = .slice ad es.length cp ∧ OwS 48 35 (.slice ad es.length cp) es.length (enE es).flatten Lx ∧ St ⟨w, H, []⟩ H Lx w' := by
  refine calls_start Tryd.func62 rfl Tryd.ntmps62 rfl (fun a hF => ?_)
  have hS := St.start w H hz
  refine c_seq (fun K1 hK1 => ?_)
  refine c_reg ?_
  refine n_q hF hS (q_assign rfl) rfl (fun a hF => ?_)
  refine hK1 _ _ ?_
  refine c_seq (fun K2 hK2 => ?_)
  refine c_seq (fun K3 hK3 => ?_)
  refine c_reg ?_
  refine n_q hF hS (q_move rfl) rfl (fun a hF => ?_)
  refine n_q hF hS (q_eqNilS Tryd.underlying31 rfl rfl) rfl (fun a hF => ?_)
  refine hK3 _ _ ?_
  refine sp hF (s := 4) rfl (fun hc4 hF => ?_) (fun hc4 hF => ?_)
  · refine c_true hF rfl ?_
    refine c_seq (fun K4 hK4 => ?_)
    refine c_reg ?_
    refine n_q hF hS (q_assign rfl) rfl (fun a hF => ?_)
    refine hK4 _ _ ?_
    refine c_ret ?_
    repeat (first | refine ret_then ?_ | refine ret_blk ?_)
    refine c_ret' (P := Tryd.prog) (fn := Tryd.f62) rfl hF hS (.tmp rfl .nil) ⟨_, rfl, ?_⟩
    have ha := isNone_some hc4
    subst ha
    have h0 := RdS.none_len hr
    refine ⟨none, 0, [], ?_, OwS_empty h0 (RdS.len hr), hS⟩
    show Value.slice none 0 0 = _
    rw [h0]
  · refine c_false hF rfl ?_
    refine wp_skip ?_
    refine hK2 _ _ ?_
    refine c_seq (fun K5 hK5 => ?_)
    refine c_reg ?_
    refine n_l rfl (fun K6 hK6 => l_buildO (els := []) Tryd.underlying31 ty48 zr48 hF hS rfl rfl rfl (by simp [Value.cells, dc_length, Hd.c_len, En.c_len, List.length_replicate, List.length_cons, List.length_nil, List.length_append]) rfl rfl rfl (fun a w b1 hF hS => hK6 _ _ ?_))
    refine n_q hF hS (q_move rfl) rfl (fun a hF => ?_)
    refine n_l rfl (fun K7 hK7 => l_append (L := []) Tryd.underlying31 ty48 zr48 bt48 hF hS rfl rfl (OwS.row0 _ _ _) (.slice Tryd.underlying31 hr (enE_all1 _)) (by omega) (by simp only [maxLen]; omega) rfl rfl (fun a w c3_2 ad3_2 Lx3_2 ho3_2 hF hS => hK7 _ _ ?_))
    rw [Nat.zero_add, List.nil_append] at ho3_2
    rw [Nat.zero_add] at hF
    rw [List.append_nil] at hS
    refine n_q hF hS (q_assign rfl) rfl (fun a hF => ?_)
    refine hK5 _ _ ?_
    refine c_ret ?_
    repeat (first | refine ret_then ?_ | refine ret_blk ?_)
    refine c_ret' (P := Tryd.prog) (fn := Tryd.f62) rfl hF hS (.tmp rfl .nil) ⟨_, rfl, ?_⟩
    exact ⟨_, _, _, rfl, ho3_2, hS⟩

theorem cloneL_c (es : List Lg) (a0 : Option Addr) (c : Nat) (hn : es.length ≤ 1000000) (w : World) (H : Froz) (hz : Fz H w) (hr : RdS H a0 es.length 2 (lgE es).flatten) :
    CallsR Tryd.prog 91 [.slice a0 es.length c] w fun v w' => ∃ ad cp Lx, v = .slice ad es.length cp ∧ OwS 100 2 (.slice ad es.length cp) es.length (lgE es).flatten Lx ∧ St ⟨w, H, []⟩ H Lx w' := by
  refine calls_start Tryd.func91 rfl Tryd.ntmps91 rfl (fun a hF => ?_)
  have hS := St.start w H hz
  refine c_seq (fun K1 hK1 => ?_)
  refine c_reg ?_
  refine n_q hF hS (q_assign rfl) rfl (fun a hF => ?_)
  refine hK1 _ _ ?_
  refine c_seq (fun K2 hK2 => ?_)
  refine c_seq (fun K3 hK3 => ?_)
  refine c_reg ?_
  refine n_q hF hS (q_move rfl) rfl (fun a hF => ?_)
  refine n_q hF hS (q_eqNilS Tryd.underlying24 rfl rfl) rfl (fun a hF => ?_)
  refine hK3 _ _ ?_
  refine sp hF (s := 4) rfl (fun hc4 hF => ?_) (fun hc4 hF => ?_)
  · refine c_true hF rfl ?_
    refine c_seq (fun K4 hK4 => ?_)
    refine c_reg ?_
    refine n_q hF hS (q_assign rfl) rfl (fun a hF => ?_)
    refine hK4 _ _ ?_
    refine c_ret ?_
    repeat (first | refine ret_then ?_ | refine ret_blk ?_)
    refine c_ret' (P := Tryd.prog) (fn := Tryd.f91) rfl hF hS (.tmp rfl .nil) ⟨_, rfl, ?_⟩
    have ha := isNone_some hc4
    subst ha
    have h0 := RdS.none_len hr
    refine ⟨none, 0, [], ?_, OwS_empty h0 (RdS.len hr), hS⟩
    show Value.slice none 0 0 = _
    rw [h0]
  · refine c_false hF rfl ?_
    refine wp_skip ?_
    refine hK2 _ _ ?_
    refine c_seq (fun K5 hK5 => ?_)
    refine c_reg ?_
    refine n_l rfl (fun K6 hK6 => l_buildO (els := []) Tryd.underlying24 ty100 zr100 hF hS rfl rfl rfl (by simp [Value.cells, dc_length, Hd.c_len, En.c_len, List.length_replicate, List.length_cons, List.length_nil, List.length_append]) rfl rfl rfl (fun a w b1 hF hS => hK6 _ _ ?_))
    refine n_q hF hS (q_move rfl) rfl (fun a hF => ?_)
    refine n_l rfl (fun K7 hK7 => l_append (L := []) Tryd.underlying24 ty100 zr100 bt100 hF hS rfl rfl (OwS.row0 _ _ _) (.slice Tryd.underlying24 hr (lgE_all1 _)) (by omega) (by simp only [maxLen]; omega) rfl rfl (fun a w c3_2 ad3_2 Lx3_2 ho3_2 hF hS => hK7 _ _ ?_))
    rw [Nat.zero_add, List.nil_append] at ho3_2
    rw [Nat.zero_add] at hF
    rw [List.append_nil] at hS
    refine n_q hF hS (q_assign rfl) rfl (fun a hF => ?_)
    refine hK5 _ _ ?_
    refine c_ret ?_
    repeat (first | refine ret_then ?_ | refine ret_blk ?_)
    refine c_ret' (P := Tryd.prog) (fn := Tryd.f91) rfl hF hS (.tmp rfl .nil) ⟨_, rfl, ?_⟩
    exact ⟨_, _, _, rfl, ho3_2, hS⟩
end Go.Proofs.YtneokajhmonpaaaDoor
namespace Go.Proofs.YtneokajhmonpaaaDoor
open Go Go.RowKit Go.W
set_option maxRecDepth 10000
namespace T25
theorem en58 : enS Tryd.prog 58 = true := by kernel_rfl
theorem fl48_1 : flS Tryd.prog 48 1 = some (1, 32) := by kernel_rfl
theorem gu35 : guS Tryd.prog 35 = true := by kernel_rfl
theorem ty5 : tyS Tryd.prog 5 = some (false, 1) := by kernel_rfl
theorem ty35 : tyS Tryd.prog 35 = some (true, 32) := by kernel_rfl
theorem ty48 : tyS Tryd.prog 48 = some (true, 35) := by kernel_rfl
theorem mo : Tryd.prog.follows .mixedOrders = true := by kernel_rfl
end T25
open T25

theorem put1_c (e : En) (d : Dg) (bd : Nat) (w : World) (H : Froz) (hz : Fz H w) (hd : HR H bd (dc d)) : CallsR Tryd.prog 58 [.agg e.c.toArray, .pointer (some ⟨bd, 0, none⟩)] w fun v w' => v = .bool (decide (e.dg = d)) ∧ St ⟨w, H, []⟩ H [] w' := by
  refine calls_start Tryd.func58 rfl Tryd.ntmps58 rfl (fun a hF => ?_)
  have hS := St.start w H hz
  refine c_seq (fun K1 hK1 => ?_)
  refine c_reg ?_
  refine n_l rfl (fun K2 hK2 => l_boxA hF hS rfl rfl (fun a w b1 hF hS => hK2 _ _ ?_))
  refine n_q hF hS (q_assign rfl) rfl (fun a hF => ?_)
  refine hK1 _ _ ?_
  refine c_seq (fun K3 hK3 => ?_)
  refine c_reg ?_
  refine n_q hF hS (q_fieldAddr fl48_1 (by decide) rfl) rfl (fun a hF => ?_)
  refine n_q hF hS (q_load ty35 rfl (i := 0) rfl (by simp [dc_length, Hd.c_len, En.c_len, List.length_replicate, List.length_cons, List.length_nil, List.length_append]) rfl (En.ld_dg e)) rfl (fun a hF => ?_)
  refine n_q hF hS (q_loadG (o := 0) (v := .agg (dc d).toArray) ty35 rfl hd.h (by rw [dc_length]; decide) rfl (by simp only [ldv, cond_true, List.drop_zero]; rw [List.take_of_length_le (by rw [dc_length]; exact Nat.le_refl _)])) rfl (fun a hF => ?_)
  refine n_q hF hS (q_eqDg gu35 Tryd.underlying35 Tryd.underlying5 ty5 rfl rfl) rfl (fun a hF => ?_)
  refine n_q hF hS (q_assign rfl) rfl (fun a hF => ?_)
  refine hK3 _ _ ?_
  refine c_ret ?_
  repeat (first | refine ret_then ?_ | refine ret_blk ?_)
  refine c_ret' (P := Tryd.prog) (fn := Tryd.f58) rfl hF hS (.tmp rfl .nil) ⟨_, rfl, ?_⟩
  exact ⟨rfl, hS.same⟩

theorem IndexFuncE_c (es : List En) (d : Dg) (bd : Nat) (a0 : Option Addr) (c : Nat) (hn : es.length ≤ 1000000) (w : World) (H : Froz) (hz : Fz H w) (hr : RdL H a0 35 (enE es)) (hd : HR H bd (dc d)) :
    CallsR Tryd.prog 57 [.slice a0 es.length c, .func (.func 58) #[] #[.pointer (some ⟨bd, 0, none⟩)]] w fun v w' => v = .int .i64 (idxDg es d) ∧ St ⟨w, H, []⟩ H [] w' := by
  refine calls_start Tryd.func57 rfl Tryd.ntmps57 rfl (fun a hF => ?_)
  have hS := St.start w H hz
  refine c_seq (fun K1 hK1 => ?_)
  refine c_reg ?_
  refine n_q hF hS (q_assign rfl) rfl (fun a hF => ?_)
  refine hK1 _ _ ?_
  refine c_seq (fun K2 hK2 => ?_)
  refine c_seq (fun K3 hK3 => ?_)
  refine c_reg ?_
  refine n_q hF hS (q_move rfl) rfl (fun a hF => ?_)
  refine n_q hF hS (q_len Tryd.underlying31 rfl rfl) rfl (fun a hF => ?_)
  refine n_q hF hS (q_move rfl) rfl (fun a hF => ?_)
  refine hK3 _ _ ?_
  refine c_block ?_
  refine c_loopL hF [4, 5, 8, 9, 10, 11, 12, 13, 14, 15, 16, 17, 18]
    (fun k : Nat => [(8, .int .i64 (k : Int))])
    (fun _ => [])
    (fun k _ => k ≤ es.length ∧ ∀ (j : Nat) (h : j < k) (h2 : j < es.length), ¬ es[j].dg = d)
    (fun k => es.length - k) (0) ⟨rfl, trivial⟩ (hS) (⟨Nat.zero_le _, fun j h => absurd h (Nat.not_lt_zero _)⟩) ?_
  clear hF hS
  intro k a w H hle hF hS hJ
  replace hr := hr.mono hle
  replace hd := hd.mono hle
  have hl0 := Le.refl H
  obtain ⟨hk, hno⟩ := hJ
  try dsimp only at hF hS hk
  refine c_seq (fun K4 hK4 => ?_)
  refine c_reg ?_
  refine n_q hF hS (q_lss rfl rfl) rfl (fun a hF => ?_)
  refine hK4 _ _ ?_
  refine c_seq (fun K5 hK5 => ?_)
  refine spd hF (s := 9) rfl (fun hc9 hF => ?_) (fun hc9 hF => ?_)
  · refine c_true hF rfl ?_
    refine wp_skip ?_
    refine hK5 _ _ ?_
    refine c_seq (fun K6 hK6 => ?_)
    refine c_block ?_
    refine c_seq (fun K7 hK7 => ?_)
    refine c_reg ?_
    refine n_q hF hS (q_move rfl) rfl (fun a hF => ?_)
    refine n_q hF hS (q_assign rfl) rfl (fun a hF => ?_)
    refine hK7 _ _ ?_
    refine c_seq (fun K8 hK8 => ?_)
    refine c_reg ?_
    have hlt : k < es.length := by omega
    have hel : (enE es)[k]? = some es[k].c := by simp [enE, hlt]
    refine n_q hF hS (q_move rfl) rfl (fun a hF => ?_)
    refine n_q hF hS (q_move rfl) rfl (fun a hF => ?_)
    refine n_q hF hS (q_move rfl) rfl (fun a hF => ?_)
    refine n_q hF hS (q_indexAddrS Tryd.underlying31 ty48 rfl rfl (by omega) (hr.some (by simp [enE]; omega))) rfl (fun a hF => ?_)
    refine n_q hF hS (q_loadL0 (v := .agg es[k].c.toArray) ty48 rfl hr hel (by decide) rfl (En.ld_all _)) rfl (fun a hF => ?_)
    refine n_l rfl (fun K9 hK9 => l_callv en58 hF rfl rfl rfl (put1_c es[k] d bd _ _ hS.fz hd) (fun v9 w hR a hF => ?_))
    obtain ⟨rfl, hc⟩ := hR
    replace hS := hS.call0 hc
    refine hK9 _ _ ?_
    refine hK8 _ _ ?_
    refine spd hF (s := 16) rfl (fun hc16 hF => ?_) (fun hc16 hF => ?_)
    · refine c_true hF rfl ?_
      refine c_seq (fun K10 hK10 => ?_)
      refine c_reg ?_
      refine n_q hF hS (q_move rfl) rfl (fun a hF => ?_)
      refine n_q hF hS (q_assign rfl) rfl (fun a hF => ?_)
      refine hK10 _ _ ?_
      refine c_ret ?_
      repeat (first | refine ret_then ?_ | refine ret_blk ?_)
      refine c_ret' (P := Tryd.prog) (fn := Tryd.f57) rfl hF hS (.tmp rfl .nil) ⟨_, rfl, ?_⟩
      exact ⟨by show Value.int _ _ = _; rw [idxDg_yes hlt hc16 hno], hS.same⟩
    · refine c_false hF rfl ?_
      refine wp_skip ?_
      refine hK6 _ _ ?_
      refine c_reg ?_
      refine n_q hF hS (q_addI rfl rfl (by omega)) rfl (fun a hF => ?_)
      refine n_q hF hS (q_move rfl) rfl (fun a hF => ?_)
      exact ⟨k + 1, _, (by show es.length - (k + 1) < es.length - k; omega), hl0, hF.back ⟨rfl, trivial⟩ rfl (by repeat first | exact Ext.refl _ _ | refine Ext.rem' rfl ?_ | refine Ext.push rfl ?_), hS.lose (.refl _), ⟨by show k + 1 ≤ es.length; omega, fun j h h2 => by rcases Nat.lt_succ_iff_lt_or_eq.1 h with h | rfl; exact hno j h h2; exact hc16⟩⟩
  · refine c_false hF rfl ?_
    refine c_exit ?_
    refine hK2 _ _ ?_
    refine c_seq (fun K11 hK11 => ?_)
    refine c_reg ?_
    refine n_q hF hS (q_assign rfl) rfl (fun a hF => ?_)
    refine hK11 _ _ ?_
    refine c_ret ?_
    repeat (first | refine ret_then ?_ | refine ret_blk ?_)
    refine c_ret' (P := Tryd.prog) (fn := Tryd.f57) rfl hF hS (.tmp rfl .nil) ⟨_, rfl, ?_⟩
    exact ⟨by show Value.int _ _ = _; rw [idxDg_no (fun j h => hno j (by omega) h)], hS.same⟩

theorem Clip_c (a0 : Option Addr) (n c : Nat) (hnc : n ≤ c) (w : World) (H : Froz) (hz : Fz H w) : CallsR Tryd.prog 60 [.slice a0 n c] w fun v w' => v = .slice a0 n n ∧ St ⟨w, H, []⟩ H [] w' := by
  refine calls_start Tryd.func60 rfl Tryd.ntmps60 rfl (fun a hF => ?_)
  have hS := St.start w H hz
  refine c_seq (fun K1 hK1 => ?_)
  refine c_reg ?_
  refine n_q hF hS (q_assign rfl) rfl (fun a hF => ?_)
  refine hK1 _ _ ?_
  refine c_seq (fun K2 hK2 => ?_)
  refine c_reg ?_
  refine n_q hF hS (q_move rfl) rfl (fun a hF => ?_)
  refine n_q hF hS (q_move rfl) rfl (fun a hF => ?_)
  refine n_q hF hS (q_len Tryd.underlying31 rfl rfl) rfl (fun a hF => ?_)
  refine n_q hF hS (q_move rfl) rfl (fun a hF => ?_)
  refine n_q hF hS (q_len Tryd.underlying31 rfl rfl) rfl (fun a hF => ?_)
  refine n_q hF hS (q_slice (n := n) (c := c) (m := n) (h := n) (l := 0) Tryd.underlying31 ty48 rfl ⟨_, rfl, hnc⟩ ⟨_, rfl, Nat.le_refl n⟩ rfl) rfl (fun a hF => ?_)
  refine n_q hF hS (q_assign rfl) rfl (fun a hF => ?_)
  refine hK2 _ _ ?_
  refine c_ret ?_
  repeat (first | refine ret_then ?_ | refine ret_blk ?_)
  refine c_ret' (P := Tryd.prog) (fn := Tryd.f60) rfl hF hS (.tmp rfl .nil) ⟨_, rfl, ?_⟩
  exact ⟨by show Value.slice _ _ _ = _; rw [cutA_zero]; rfl, hS.same⟩
end Go.Proofs.YtneokajhmonpaaaDoor
namespace Go.Proofs.YtneokajhmonpaaaDoor
open Go Go.RowKit Go.W
set_option maxRecDepth 10000
namespace T26
theorem en62 : enS Tryd.prog 62 = true := by kernel_rfl
theorem en84 : enS Tryd.prog 84 = true := by kernel_rfl
theorem fl48_2 : flS Tryd.prog 48 2 = some (33, 1) := by kernel_rfl
theorem ty46 : tyS Tryd.prog 46 = some (false, 1) := by kernel_rfl
theorem ty48 : tyS Tryd.prog 48 = some (true, 35) := by kernel_rfl
theorem mo : Tryd.prog.follows .mixedOrders = true := by kernel_rfl
end T26
open T26

theorem clones_c (es : List En) (a0 : Option Addr) (c : Nat) (hn : es.length ≤ 1000000) (w : World) (H : Froz) (hz : Fz H w) (hr : RdL H a0 35 (enE es)) (ho : EnsOK H es) :
    CallsR Tryd.prog 48 [.slice a0 es.length c] w fun v w' => ∃ ad cp es' H', v = .slice ad es.length cp ∧ Le H H' ∧ es'.length = es.length ∧ es'.map En.key = es.map En.key ∧ RdL H' ad 35 (enE es') ∧ EnsOK H' es' ∧ es.length ≤ cp ∧ St ⟨w, H, []⟩ H' [] w' := by
  refine calls_start Tryd.func48 rfl Tryd.ntmps48 rfl (fun a hF => ?_)
  have hS := St.start w H hz
  refine c_seq (fun K1 hK1 => ?_)
  refine c_reg ?_
  refine n_q hF hS (q_assign rfl) rfl (fun a hF => ?_)
  refine hK1 _ _ ?_
  refine c_seq (fun K2 hK2 => ?_)
  refine c_reg ?_
  refine n_q hF hS (q_move rfl) rfl (fun a hF => ?_)
  refine n_l rfl (fun K3 hK3 => l_call en62 hF rfl rfl (cloneE_c es a0 c hn _ _ hS.fz hr.rd_en) (fun v3 w hR a hF => ?_))
  obtain ⟨ad, cp, Lx, rfl, hO, hc⟩ := hR
  replace hS : St _ _ (Lx ++ []) _ := hS.call hc
  have hcp := hO.le
  obtain ⟨fL, hf0, hfO, hpos⟩ := hO.fam
  refine hK3 _ _ ?_
  refine n_q hF hS (q_assign rfl) rfl (fun a hF => ?_)
  refine hK2 _ _ ?_
  refine c_seq (fun K4 hK4 => ?_)
  refine c_seq (fun K5 hK5 => ?_)
  refine c_reg ?_
  refine n_q hF hS (q_move rfl) rfl (fun a hF => ?_)
  refine n_q hF hS (q_len Tryd.underlying31 rfl rfl) rfl (fun a hF => ?_)
  refine n_q hF hS (q_move rfl) rfl (fun a hF => ?_)
  refine hK5 _ _ ?_
  refine c_block ?_
  refine c_loopL hF [3, 8, 9, 10, 11, 12, 13, 14, 15, 16, 17, 18, 19, 20, 21]
    (fun g : Nat × List En => [(8, .int .i64 (g.1 : Int))])
    (fun g => fL g.2 ++ [])
    (fun g H => g.1 ≤ es.length ∧ g.2.length = es.length ∧ g.2.map En.key = es.map En.key ∧ EnsOK H g.2)
    (fun g => es.length - g.1) ((0, es)) ⟨rfl, trivial⟩ ((by rw [hf0]; exact hS)) (⟨Nat.zero_le _, rfl, rfl, ho⟩) ?_
  clear hF hS
  intro g a w H hle hF hS hJ
  have hl0 := Le.refl H
  obtain ⟨k, es2⟩ := g
  obtain ⟨hk, hlen, hkey, ho2⟩ := hJ
  try dsimp only at hF hS hk hlen hkey ho2
  refine c_seq (fun K6 hK6 => ?_)
  refine c_reg ?_
  refine n_q hF hS (q_lss rfl rfl) rfl (fun a hF => ?_)
  refine hK6 _ _ ?_
  refine c_seq (fun K7 hK7 => ?_)
  refine spd hF (s := 9) rfl (fun hc9 hF => ?_) (fun hc9 hF => ?_)
  · refine c_true hF rfl ?_
    refine wp_skip ?_
    refine hK7 _ _ ?_
    refine c_seq (fun K8 hK8 => ?_)
    refine c_block ?_
    refine c_seq (fun K9 hK9 => ?_)
    refine c_reg ?_
    refine n_q hF hS (q_move rfl) rfl (fun a hF => ?_)
    refine n_q hF hS (q_assign rfl) rfl (fun a hF => ?_)
    refine hK9 _ _ ?_
    refine c_reg ?_
    have hlt : k < es.length := by omega
    obtain ⟨bb, tail, hab, hfb⟩ := hpos (by omega)
    subst hab
    obtain ⟨e, hed⟩ : ∃ q, q = es2[k] := ⟨_, rfl⟩
    have he? : es2[k]? = some e := by rw [hed]; simp [hlen, hlt]
    obtain ⟨hd1, hd2, hd3⟩ := ho2 e (List.mem_of_getElem? he?)
    rw [hfb] at hS
    have hfl : ((enE es2).flatten ++ tail).length = es.length * 35 + tail.length := by rw [List.length_append, enE_len, hlen]
    replace hS : St _ _ ([⟨bb, (enE es2).flatten ++ tail, 48⟩] ++ []) _ := hS
    refine n_q hF hS (q_move rfl) rfl (fun a hF => ?_)
    refine n_q hF hS (q_move rfl) rfl (fun a hF => ?_)
    refine n_q hF hS (q_move rfl) rfl (fun a hF => ?_)
    refine n_q hF hS (q_move rfl) rfl (fun a hF => ?_)
    refine n_q hF hS (q_indexAddrSO (j := k * 35) Tryd.underlying31 ty48 rfl rfl (by omega) (by omega)) rfl (fun a hF => ?_)
    refine n_q hF hS (q_fieldAddr fl48_2 (by decide) rfl) rfl (fun a hF => ?_)
    refine n_q hF hS (q_load ty46 rfl (i := 0) rfl (by rw [Nat.ble_eq, hfl]; omega) rfl (clone_ld he?)) rfl (fun a hF => ?_)
    refine n_l rfl (fun K10 hK10 => l_call en84 hF rfl rfl (bClone_c e.bs e.dn e.da e.dp hd3 _ _ hS.fz hd1) (fun v10 w hR a hF => ?_))
    obtain ⟨ad3, cp3, Lx3, rfl, hO3, hc⟩ := hR
    obtain ⟨H4, hle4, hS4, hr4⟩ := hO3.freeze (hS.call hc)
    replace hS := hS4
    have hcp3 := hO3.le
    replace ho2 := ho2.mono hle4
    replace hl0 := hl0.mono hle4
    refine hK10 _ _ ?_
    refine n_q hF hS (q_indexAddrSO (j := k * 35) Tryd.underlying31 ty48 rfl rfl (by omega) (by omega)) rfl (fun a hF => ?_)
    refine n_q hF hS (q_fieldAddr fl48_2 (by decide) rfl) rfl (fun a hF => ?_)
    refine n_l rfl (fun K11 hK11 => l_store (vs := [_]) ty46 hF hS rfl rfl (i := 0) rfl rfl rfl (by rw [Nat.ble_eq, hfl]; omega) (by first | exact dc_all1 _ | rfl | simp [all1]) (fun a w hF hS => hK11 _ _ ?_))
    refine hK8 _ _ ?_
    refine c_reg ?_
    refine n_q hF hS (q_addI rfl rfl (by omega)) rfl (fun a hF => ?_)
    refine n_q hF hS (q_move rfl) rfl (fun a hF => ?_)
    exact ⟨(k + 1, es2.set k (e.re ad3 e.dn cp3)), _, (by show es.length - (k + 1) < es.length - k; omega), hl0, hF.back ⟨rfl, trivial⟩ rfl (by repeat first | exact Ext.refl _ _ | refine Ext.rem' rfl ?_ | refine Ext.push rfl ?_), (by (try dsimp only [List.set] at hS); rw [clone_st he?] at hS; rw [hfb]; exact hS), ⟨by show k + 1 ≤ es.length; omega, by show (es2.set _ _).length = _; rw [List.length_set]; exact hlen, clone_key he? hkey _ _ _, clone_ok ho2 hr4 hcp3 hd3⟩⟩
  · refine c_false hF rfl ?_
    refine c_exit ?_
    refine hK4 _ _ ?_
    refine c_seq (fun K12 hK12 => ?_)
    refine c_reg ?_
    refine n_q hF hS (q_move rfl) rfl (fun a hF => ?_)
    refine n_q hF hS (q_assign rfl) rfl (fun a hF => ?_)
    refine hK12 _ _ ?_
    refine c_ret ?_
    repeat (first | refine ret_then ?_ | refine ret_blk ?_)
    refine c_ret' (P := Tryd.prog) (fn := Tryd.f48) rfl hF hS (.tmp rfl .nil) ⟨_, rfl, ?_⟩
    obtain ⟨H5, hle5, hS5, hr5⟩ := (hfO es2 hlen).freeze hS
    refine ⟨ad, cp, es2, H5, rfl, hS5.le, hlen, hkey, ?_, ho2.mono hle5, hcp, hS5⟩
    rw [← hlen] at hr5
    exact RdL.of_en hr5
end Go.Proofs.YtneokajhmonpaaaDoor
namespace Go.Proofs.YtneokajhmonpaaaDoor
open Go Go.RowKit Go.W
set_option maxRecDepth 10000
namespace T27
theorem en46 : enS Tryd.prog 46 = true := by kernel_rfl
theorem en47 : enS Tryd.prog 47 = true := by kernel_rfl
theorem en48 : enS Tryd.prog 48 = true := by kernel_rfl
theorem ty26 : tyS Tryd.prog 26 = some (true, 3) := by kernel_rfl
theorem ty48 : tyS Tryd.prog 48 = some (true, 35) := by kernel_rfl
theorem mo : Tryd.prog.follows .mixedOrders = true := by kernel_rfl
end T27
open T27

theorem Fetch_c (s : Sto) (f fr : Int) (w : World) (H : Froz) (hz : Fz H w) (hg : Gl 0 1 H) (ho : StOK H s) :
    CallsR Tryd.prog 14 [.agg s.c.toArray, .int .i64 f, .int .i64 fr] w fun v w' => ∃ es' ad cp H', v = .tuple #[.slice ad es'.length cp, .int .i64 (fetchE s f fr)] ∧ Le H H' ∧ es'.map En.key = (fetchL s f fr).map En.key ∧ RdL H' ad 35 (enE es') ∧ EnsOK H' es' ∧ es'.length ≤ cp ∧ St ⟨w, H, []⟩ H' [] w' := by
  refine calls_start Tryd.func14 rfl Tryd.ntmps14 rfl (fun a hF => ?_)
  have hS := St.start w H hz
  refine c_seq (fun K1 hK1 => ?_)
  refine c_reg ?_
  refine n_l rfl (fun K2 hK2 => l_boxA hF hS rfl rfl (fun a w b1 hF hS => hK2 _ _ ?_))
  refine n_q hF hS (q_assign rfl) rfl (fun a hF => ?_)
  refine n_q hF hS (q_assign rfl) rfl (fun a hF => ?_)
  refine hK1 _ _ ?_
  refine c_seq (fun K3 hK3 => ?_)
  refine c_reg ?_
  refine n_q hF hS (q_load0 ty26 rfl (i := 0) rfl rfl rfl) rfl (fun a hF => ?_)
  refine n_q hF hS (q_move rfl) rfl (fun a hF => ?_)
  refine n_l rfl (fun K4 hK4 => l_call en46 hF rfl rfl (open_c s f _ _ hS.fz hg ho) (fun v4 w hR a hF => ?_))
  obtain ⟨pp, Ho, rfl, hleo, hopen, hc⟩ := hR
  replace hS := hS.call hc
  replace hg := hg.mono hleo
  replace ho := ho.mono hleo
  refine hK4 _ _ ?_
  refine n_q hF hS (q_move rfl) rfl (fun a hF => ?_)
  refine n_q hF hS (q_extract (i := 0) rfl rfl) rfl (fun a hF => ?_)
  refine n_q hF hS (q_extract (i := 1) rfl rfl) rfl (fun a hF => ?_)
  refine n_q hF hS (q_assign rfl) rfl (fun a hF => ?_)
  refine n_q hF hS (q_assign rfl) rfl (fun a hF => ?_)
  refine hK3 _ _ ?_
  refine c_seq (fun K5 hK5 => ?_)
  refine c_seq (fun K6 hK6 => ?_)
  refine c_reg ?_
  refine n_q hF hS (q_move rfl) rfl (fun a hF => ?_)
  refine n_q hF hS (q_neI rfl rfl) rfl (fun a hF => ?_)
  refine hK6 _ _ ?_
  refine spn hF (s := 16) rfl (fun hc16 hF => ?_) (fun hc16 hF => ?_)
  · refine c_true hF rfl ?_
    refine c_seq (fun K7 hK7 => ?_)
    refine c_reg ?_
    refine n_q hF hS (q_move rfl) rfl (fun a hF => ?_)
    refine n_q hF hS (q_assign rfl) rfl (fun a hF => ?_)
    refine n_q hF hS (q_assign rfl) rfl (fun a hF => ?_)
    refine hK7 _ _ ?_
    refine c_ret ?_
    repeat (first | refine ret_then ?_ | refine ret_blk ?_)
    refine c_ret' (P := Tryd.prog) (fn := Tryd.f14) rfl hF hS (.tmp rfl (.tmp rfl .nil)) ⟨_, rfl, ?_⟩
    have he : fetchE s f fr = openE s f := by rw [fetchE_def, if_neg hc16]
    refine ⟨[], none, 0, _, by rw [he]; rfl, hS.le, ?_, RdL.nil _ _ _, (fun _ h => by cases h), Nat.zero_le _, hS.nil⟩
    rw [fetchL, if_neg (by rw [he]; exact hc16)]
  · refine c_false hF rfl ?_
    refine wp_skip ?_
    refine hK5 _ _ ?_
    refine c_seq (fun K8 hK8 => ?_)
    refine c_reg ?_
    obtain ⟨bb, rfl, hbb⟩ := hopen hc16
    have hsrt := sorted_of (checkN_ok (openE_ok hc16).1)
    refine n_q hF hS (q_move rfl) rfl (fun a hF => ?_)
    refine n_q hF hS (q_move rfl) rfl (fun a hF => ?_)
    refine n_l rfl (fun K9 hK9 => l_call en47 hF rfl rfl (entries_c s bb f hsrt _ _ hS.fz hbb ho) (fun v9 w hR a hF => ?_))
    obtain ⟨p, l, hpos, hcase, rfl, hc⟩ := hR
    replace hS := hS.call0 hc
    obtain ⟨hent, hlo⟩ : entF s.logs f = l.es ∧ LgOK _ l := by
      rcases hcase with ⟨h1, h2⟩ | ⟨h1, h2⟩
      · exact ⟨entF_yes hpos h1 h2, ho.lg l (List.mem_of_getElem? h2)⟩
      · subst h2; exact ⟨entF_no hsrt hpos h1, LgOK.nil _ f⟩
    have hlen := hlo.len
    refine hK9 _ _ ?_
    refine n_q hF hS (q_assign rfl) rfl (fun a hF => ?_)
    refine hK8 _ _ ?_
    refine c_seq (fun K10 hK10 => ?_)
    refine c_seq (fun K11 hK11 => ?_)
    refine c_reg ?_
    refine n_q hF hS (q_move rfl) rfl (fun a hF => ?_)
    refine n_q hF hS (q_lss rfl rfl) rfl (fun a hF => ?_)
    refine n_q hF hS (q_move rfl) rfl (fun a hF => ?_)
    refine spd hF (s := 23) rfl (fun hc23 hF => ?_) (fun hc23 hF => ?_)
    · refine n_no hF (b := true) rfl rfl rfl (fun a hF => ?_)
      refine n_no hF (b := true) rfl rfl rfl (fun a hF => ?_)
      refine n_no hF (b := true) rfl rfl rfl (fun a hF => ?_)
      refine n_no hF (b := true) rfl rfl rfl (fun a hF => ?_)
      refine n_no hF (b := true) rfl rfl rfl (fun a hF => ?_)
      refine n_q hF hS (q_pick (b := true) rfl rfl) rfl (fun a hF => ?_)
      refine hK11 _ _ ?_
      refine c_true hF rfl ?_
      refine c_seq (fun K12 hK12 => ?_)
      refine c_reg ?_
      refine n_q hF hS (q_assign rfl) rfl (fun a hF => ?_)
      refine n_q hF hS (q_assign rfl) rfl (fun a hF => ?_)
      refine hK12 _ _ ?_
      refine c_ret ?_
      repeat (first | refine ret_then ?_ | refine ret_blk ?_)
      refine c_ret' (P := Tryd.prog) (fn := Tryd.f14) rfl hF hS (.tmp rfl (.tmp rfl .nil)) ⟨_, rfl, ?_⟩
      have he : fetchE s f fr = 1 := by rw [fetchE_def, if_pos hc16, hent, if_pos (by omega)]
      refine ⟨[], none, 0, _, by rw [he]; rfl, hS.le, ?_, RdL.nil _ _ _, (fun _ h => by cases h), Nat.zero_le _, hS.nil⟩
      rw [fetchL, if_neg (by rw [he]; decide)]
    · refine n_yes hF rfl ?_
      refine n_q hF hS (q_move rfl) rfl (fun a hF => ?_)
      refine n_yes hF rfl ?_
      refine n_q hF hS (q_move rfl) rfl (fun a hF => ?_)
      refine n_yes hF rfl ?_
      refine n_q hF hS (q_len Tryd.underlying31 rfl rfl) rfl (fun a hF => ?_)
      refine n_yes hF rfl ?_
      refine n_q hF hS (q_addI rfl rfl (by omega)) rfl (fun a hF => ?_)
      refine n_yes hF rfl ?_
      refine n_q hF hS (q_gtr rfl rfl) rfl (fun a hF => ?_)
      refine n_q hF hS (q_pick (b := false) rfl rfl) rfl (fun a hF => ?_)
      refine hK11 _ _ ?_
      refine spd hF (s := 29) rfl (fun hc29 hF => ?_) (fun hc29 hF => ?_)
      · refine c_true hF rfl ?_
        refine c_seq (fun K13 hK13 => ?_)
        refine c_reg ?_
        refine n_q hF hS (q_assign rfl) rfl (fun a hF => ?_)
        refine n_q hF hS (q_assign rfl) rfl (fun a hF => ?_)
        refine hK13 _ _ ?_
        refine c_ret ?_
        repeat (first | refine ret_then ?_ | refine ret_blk ?_)
        refine c_ret' (P := Tryd.prog) (fn := Tryd.f14) rfl hF hS (.tmp rfl (.tmp rfl .nil)) ⟨_, rfl, ?_⟩
        have he : fetchE s f fr = 1 := by rw [fetchE_def, if_pos hc16, hent, if_pos (by omega)]
        refine ⟨[], none, 0, _, by rw [he]; rfl, hS.le, ?_, RdL.nil _ _ _, (fun _ h => by cases h), Nat.zero_le _, hS.nil⟩
        rw [fetchL, if_neg (by rw [he]; decide)]
      · refine c_false hF rfl ?_
        refine wp_skip ?_
        refine hK10 _ _ ?_
        refine c_seq (fun K14 hK14 => ?_)
        refine c_reg ?_
        obtain ⟨q, hq⟩ : ∃ q : Nat, (q : Int) = fr - 1 := ⟨(fr - 1).toNat, by omega⟩
        have hql : q ≤ l.es.length := by omega
        refine n_q hF hS (q_move rfl) rfl (fun a hF => ?_)
        refine n_q hF hS (q_move rfl) rfl (fun a hF => ?_)
        refine n_q hF hS (q_subI rfl rfl (by omega)) rfl (fun a hF => ?_)
        refine rw_ hF (s := 32) (u := .int .i64 (q : Int)) rfl (by rw [hq]) (fun hF => ?_)
        refine n_q hF hS (q_sliceF Tryd.underlying31 ty48 rfl rfl (by omega)) rfl (fun a hF => ?_)
        refine rw_ hF (s := 33) (u := .slice (cutA l.ea l.ec q 35) (l.es.drop q).length (l.ec - q)) rfl (by rw [List.length_drop]) (fun hF => ?_)
        refine n_l rfl (fun K15 hK15 => l_call en48 hF rfl rfl (clones_c (l.es.drop q) _ _ (by rw [List.length_drop]; omega) _ _ hS.fz (drop_rd hlo.rd hql hlo.cap) (drop_ok hlo.en)) (fun v15 w hR a hF => ?_))
        obtain ⟨ad, cp, es', H4, rfl, hle4, hlen4, hkey4, hrd4, hok4, hcp4, hc⟩ := hR
        replace hS := hS.call hc
        refine hK15 _ _ ?_
        refine n_q hF hS (q_assign rfl) rfl (fun a hF => ?_)
        refine n_q hF hS (q_assign rfl) rfl (fun a hF => ?_)
        refine hK14 _ _ ?_
        refine c_ret ?_
        repeat (first | refine ret_then ?_ | refine ret_blk ?_)
        refine c_ret' (P := Tryd.prog) (fn := Tryd.f14) rfl hF hS (.tmp rfl (.tmp rfl .nil)) ⟨_, rfl, ?_⟩
        have he : fetchE s f fr = 0 := by rw [fetchE_def, if_pos hc16, hent, if_neg (by omega)]
        refine ⟨es', ad, cp, H4, by rw [he, hlen4]; rfl, hS.le, ?_, hrd4, hok4, by rw [hlen4]; exact hcp4, hS.nil⟩
        rw [hkey4, fetchL, if_pos he, hent, show (fr - 1).toNat = q by omega]
end Go.Proofs.YtneokajhmonpaaaDoor
namespace Go.Proofs.YtneokajhmonpaaaDoor
open Go Go.RowKit Go.W
set_option maxRecDepth 10000
namespace T28
theorem en48 : enS Tryd.prog 48 = true := by kernel_rfl
theorem en91 : enS Tryd.prog 91 = true := by kernel_rfl
theorem fl26_2 : flS Tryd.prog 26 2 = some (2, 1) := by kernel_rfl
theorem fl100_1 : flS Tryd.prog 100 1 = some (1, 1) := by kernel_rfl
theorem ty24 : tyS Tryd.prog 24 = some (false, 1) := by kernel_rfl
theorem ty26 : tyS Tryd.prog 26 = some (true, 3) := by kernel_rfl
theorem ty31 : tyS Tryd.prog 31 = some (false, 1) := by kernel_rfl
theorem ty100 : tyS Tryd.prog 100 = some (true, 2) := by kernel_rfl
theorem zr26 : zrS Tryd.prog 26 = some [.int .i64 0, .int .i64 0, .slice none 0 0] := by kernel_rfl
theorem mo : Tryd.prog.follows .mixedOrders = true := by kernel_rfl
end T28
open T28

theorem copied_c (s : Sto) (w : World) (H : Froz) (hz : Fz H w) (ho : StOK H s) :
    CallsR Tryd.prog 59 [.agg s.c.toArray] w fun v w' => ∃ s' H', v = .agg s'.c.toArray ∧ Le H H' ∧ StOK H' s' ∧ s'.id = s.id ∧ s'.priv = s.priv ∧ s'.logs.map Lg.key = s.logs.map Lg.key ∧ St ⟨w, H, []⟩ H' [] w' := by
  refine calls_start Tryd.func59 rfl Tryd.ntmps59 rfl (fun a hF => ?_)
  have hS := St.start w H hz
  have hsl := ho.len
  refine c_seq (fun K1 hK1 => ?_)
  refine c_reg ?_
  refine n_l rfl (fun K2 hK2 => l_boxA hF hS rfl rfl (fun a w b1 hF hS => hK2 _ _ ?_))
  refine n_l rfl (fun K3 hK3 => l_alloc hF hS zr26 rfl (fun a w b2 hF hS => hK3 _ _ ?_))
  refine hK1 _ _ ?_
  refine c_seq (fun K4 hK4 => ?_)
  refine c_reg ?_
  refine n_q hF hS (q_fieldAddr fl26_2 (by decide) rfl) rfl (fun a hF => ?_)
  refine n_q hF hS (q_load ty24 rfl (i := 1) rfl rfl rfl (show ldv false 1 s.c 2 = some (.slice s.la s.logs.length s.lc) from rfl)) rfl (fun a hF => ?_)
  refine n_l rfl (fun K5 hK5 => l_call en91 hF rfl rfl (cloneL_c s.logs s.la s.lc ho.len _ _ hS.fz ho.rd.rd_lg) (fun v5 w hR a hF => ?_))
  obtain ⟨ad, cp, Lx, rfl, hO, hc⟩ := hR
  replace hS : St _ _ ([_, _] ++ Lx) _ := (hS.call hc).perm List.perm_append_comm
  have hcp := hO.le
  obtain ⟨fL, hf0, hfO, hpos⟩ := hO.famL
  refine hK5 _ _ ?_
  refine n_q hF hS (q_fieldAddr fl26_2 (by decide) rfl) rfl (fun a hF => ?_)
  refine n_l rfl (fun K6 hK6 => l_store (vs := [_]) ty24 hF hS rfl rfl (i := 1) rfl rfl rfl rfl rfl (fun a w hF hS => hK6 _ _ ?_))
  refine hK4 _ _ ?_
  refine c_seq (fun K7 hK7 => ?_)
  refine c_seq (fun K8 hK8 => ?_)
  refine c_reg ?_
  replace hS := St.cast (L' := [⟨b2, [.int .i64 0, .int .i64 0, .slice none 0 0], 26⟩, ⟨b1, [.int .i64 s.id, .int .i64 s.priv, .slice ad s.logs.length cp], 26⟩] ++ fL s.logs) hS (by rw [hf0]; rfl)
  refine n_q hF hS (q_fieldAddr fl26_2 (by decide) rfl) rfl (fun a hF => ?_)
  refine n_q hF hS (q_load ty24 rfl (i := 1) rfl rfl rfl (show ldv false 1 [.int .i64 s.id, .int .i64 s.priv, .slice ad s.logs.length cp] 2 = some (.slice ad s.logs.length cp) from rfl)) rfl (fun a hF => ?_)
  refine n_q hF hS (q_len Tryd.underlying24 rfl rfl) rfl (fun a hF => ?_)
  refine n_q hF hS (q_move rfl) rfl (fun a hF => ?_)
  refine hK8 _ _ ?_
  refine c_block ?_
  refine c_loopL hF [3, 11, 12, 13, 14, 15, 16, 17, 18, 19, 20, 21, 22, 23, 24, 25, 26]
    (fun g : Nat × List Lg => [(11, .int .i64 (g.1 : Int))])
    (fun g => [⟨b2, [.int .i64 0, .int .i64 0, .slice none 0 0], 26⟩, ⟨b1, [.int .i64 s.id, .int .i64 s.priv, .slice ad s.logs.length cp], 26⟩] ++ fL g.2)
    (fun g H => g.1 ≤ s.logs.length ∧ g.2.length = s.logs.length ∧ g.2.map Lg.key = s.logs.map Lg.key ∧ ∀ l ∈ g.2, LgOK H l)
    (fun g => s.logs.length - g.1) ((0, s.logs)) ⟨rfl, trivial⟩ (hS) (⟨Nat.zero_le _, rfl, rfl, ho.lg⟩) ?_
  clear hF hS
  intro g a w H hle hF hS hJ
  have hl0 := Le.refl H
  obtain ⟨k, ls2⟩ := g
  obtain ⟨hk, hlen, hkey, hlok⟩ := hJ
  try dsimp only at hF hS hk hlen hkey hlok
  refine c_seq (fun K9 hK9 => ?_)
  refine c_reg ?_
  refine n_q hF hS (q_lss rfl rfl) rfl (fun a hF => ?_)
  refine hK9 _ _ ?_
  refine c_seq (fun K10 hK10 => ?_)
  refine spd hF (s := 12) rfl (fun hc12 hF => ?_) (fun hc12 hF => ?_)
  · refine c_true hF rfl ?_
    refine wp_skip ?_
    refine hK10 _ _ ?_
    refine c_seq (fun K11 hK11 => ?_)
    refine c_block ?_
    refine c_seq (fun K12 hK12 => ?_)
    refine c_reg ?_
    refine n_q hF hS (q_move rfl) rfl (fun a hF => ?_)
    refine n_q hF hS (q_assign rfl) rfl (fun a hF => ?_)
    refine hK12 _ _ ?_
    have hlt : k < s.logs.length := by omega
    obtain ⟨bb, tail, hab, hfb⟩ := hpos (by omega)
    subst hab
    obtain ⟨l, hed⟩ : ∃ q, q = ls2[k] := ⟨_, rfl⟩
    have he? : ls2[k]? = some l := by rw [hed]; simp [hlen, hlt]
    have hlo := hlok l (List.mem_of_getElem? he?)
    rw [hfb] at hS
    have hfl : ((lgE ls2).flatten ++ tail).length = s.logs.length * 2 + tail.length := by rw [List.length_append, lgE_len, hlen]
    refine r_start (fun L => L) [12] mo hS (fun w hS => ?_)
    refine r_q (i := 0) rfl (by kernel_rfl) (by kernel_rfl) rfl (by kernel_rfl) (fun _ _ _ _ h => h) hF hS (q_fieldAddr fl26_2 (by decide) rfl) rfl (fun a hF => ?_)
    refine r_q (i := 1) rfl (by kernel_rfl) (by kernel_rfl) rfl (by kernel_rfl) (fun _ _ _ _ h => h) hF hS (q_load ty24 rfl (i := 1) rfl rfl rfl (show ldv false 1 [.int .i64 s.id, .int .i64 s.priv, .slice (some ⟨bb, 0, none⟩) s.logs.length cp] 2 = some (.slice (some ⟨bb, 0, none⟩) s.logs.length cp) from rfl)) rfl (fun a hF => ?_)
    refine r_q (i := 2) rfl (by kernel_rfl) (by kernel_rfl) rfl (by kernel_rfl) (fun _ _ _ _ h => h) hF hS (q_move rfl) rfl (fun a hF => ?_)
    refine r_q (i := 3) rfl (by kernel_rfl) (by kernel_rfl) rfl (by kernel_rfl) (fun _ _ _ _ h => h) hF hS (q_fieldAddr fl26_2 (by decide) rfl) rfl (fun a hF => ?_)
    refine r_q (i := 4) rfl (by kernel_rfl) (by kernel_rfl) rfl (by kernel_rfl) (fun _ _ _ _ h => h) hF hS (q_load ty24 rfl (i := 1) rfl rfl rfl (show ldv false 1 [.int .i64 s.id, .int .i64 s.priv, .slice (some ⟨bb, 0, none⟩) s.logs.length cp] 2 = some (.slice (some ⟨bb, 0, none⟩) s.logs.length cp) from rfl)) rfl (fun a hF => ?_)
    refine r_q (i := 5) rfl (by kernel_rfl) (by kernel_rfl) rfl (by kernel_rfl) (fun _ _ _ _ h => h) hF hS (q_move rfl) rfl (fun a hF => ?_)
    refine r_q (i := 6) rfl (by kernel_rfl) (by kernel_rfl) rfl (by kernel_rfl) (fun _ _ _ _ h => h) hF hS (q_indexAddrSO (j := k * 2) Tryd.underlying24 ty100 rfl rfl (by omega) (by omega)) rfl (fun a hF => ?_)
    refine r_q (i := 7) rfl (by kernel_rfl) (by kernel_rfl) rfl (by kernel_rfl) (fun _ _ _ _ h => h) hF hS (q_fieldAddr fl100_1 (by decide) rfl) rfl (fun a hF => ?_)
    refine r_q (i := 8) rfl (by kernel_rfl) (by kernel_rfl) rfl (by kernel_rfl) (fun _ _ _ _ h => h) hF hS (q_load ty31 rfl (i := 2) rfl (by rw [Nat.ble_eq, hfl]; omega) rfl (clog_ld he?)) rfl (fun a hF => ?_)
    refine r_one (i := 9) (by kernel_rfl) ?_
    have hsub := hS.sub
    refine r_li rfl rfl (fun K13 hK13 => l_call en48 hF rfl rfl (clones_c l.es l.ea l.ec hlo.len _ _ hS.fz hlo.rd hlo.en) (fun v13 w hR a hF => ?_))
    obtain ⟨ad3, cp3, es3, H4, rfl, hle4, hlen3, hkey3, hrd3, hok3, hcp3, hc⟩ := hR
    replace hS := hS.call hc
    replace hl0 := hl0.mono hle4
    refine rw_ hF (s := 23) (u := .slice ad3 es3.length cp3) rfl (by rw [hlen3]) (fun hF => ?_)
    refine hK13 _ _ _ hS (fun _ h => h.forget hsub hle4) ?_
    refine r_q (i := 10) rfl (by kernel_rfl) (by kernel_rfl) rfl (by kernel_rfl) (fun _ _ _ _ h => h) hF hS (q_indexAddrSO (j := k * 2) Tryd.underlying24 ty100 rfl rfl (by omega) (by omega)) rfl (fun a hF => ?_)
    refine r_q (i := 11) rfl (by kernel_rfl) (by kernel_rfl) rfl (by kernel_rfl) (fun _ _ _ _ h => h) hF hS (q_fieldAddr fl100_1 (by decide) rfl) rfl (fun a hF => ?_)
    refine r_one (i := 12) (by kernel_rfl) ?_
    refine r_lL rfl rfl rfl (fun K14 hK14 => l_store (vs := [_]) ty31 hF hS rfl rfl (i := 2) rfl rfl rfl (by rw [Nat.ble_eq, hfl]; omega) rfl (fun a w hF hS => hK14 _ _ ?_))
    refine r_done (by kernel_rfl) ?_
    refine hK11 _ _ ?_
    refine c_reg ?_
    refine n_q hF hS (q_addI rfl rfl (by omega)) rfl (fun a hF => ?_)
    refine n_q hF hS (q_move rfl) rfl (fun a hF => ?_)
    exact ⟨(k + 1, ls2.set k (l.re ad3 cp3 es3)), _, (by show s.logs.length - (k + 1) < s.logs.length - k; omega), hl0, hF.back ⟨rfl, trivial⟩ rfl (by repeat first | exact Ext.refl _ _ | refine Ext.rem' rfl ?_ | refine Ext.push rfl ?_), (by (try dsimp only [List.set] at hS); (try rw [clog_st he?] at hS); rw [hfb]; exact hS), ⟨by show k + 1 ≤ s.logs.length; omega, by show (ls2.set _ _).length = _; rw [List.length_set]; exact hlen, clog_key he? hkey _ _ hkey3, fun x hx => by rcases List.mem_or_eq_of_mem_set hx with hx | rfl; exact (hlok x hx).mono hle4; exact ⟨hrd3, hok3, by show es3.length ≤ _; rw [hlen3]; exact hlo.len, by show es3.length ≤ cp3; rw [hlen3]; exact hcp3⟩⟩⟩
  · refine c_false hF rfl ?_
    refine c_exit ?_
    refine hK7 _ _ ?_
    refine c_seq (fun K15 hK15 => ?_)
    refine c_reg ?_
    refine n_q hF hS (q_load0 ty26 rfl (i := 1) rfl rfl rfl) rfl (fun a hF => ?_)
    refine n_l rfl (fun K16 hK16 => l_store0A ty26 hF hS rfl rfl (i := 0) rfl rfl rfl rfl (fun a w hF hS => hK16 _ _ ?_))
    refine hK15 _ _ ?_
    refine c_ret ?_
    repeat (first | refine ret_then ?_ | refine ret_blk ?_)
    refine c_ret' (P := Tryd.prog) (fn := Tryd.f59) rfl hF hS (.cell0 rfl ty26 (i := 0) rfl rfl rfl .nil) ⟨_, rfl, ?_⟩
    obtain ⟨H5, hle5, hS5, hr5⟩ := (hfO ls2 hlen).freeze (St.perm (L := [_, _] ++ fL ls2) hS List.perm_append_comm)
    refine ⟨⟨s.id, s.priv, ad, cp, ls2⟩, H5, ?_, hS5.le, ⟨?_, fun l hl => (hlok l hl).mono hle5, by show ls2.length ≤ _; rw [hlen]; exact hsl, by show ls2.length ≤ cp; rw [hlen]; exact hcp⟩, rfl, rfl, hkey, hS5.nil⟩
    · show Value.agg _ = _
      rw [Sto.c, hlen]
    · rw [← hlen] at hr5
      exact RdL.of_lg hr5
end Go.Proofs.YtneokajhmonpaaaDoor
namespace Go.Proofs.YtneokajhmonpaaaDoor
open Go Go.RowKit Go.W
set_option maxRecDepth 10000
namespace T29
theorem fl48_0 : flS Tryd.prog 48 0 = some (0, 1) := by kernel_rfl
theorem fl48_1 : flS Tryd.prog 48 1 = some (1, 32) := by kernel_rfl
theorem fl48_2 : flS Tryd.prog 48 2 = some (33, 1) := by kernel_rfl
theorem fl48_3 : flS Tryd.prog 48 3 = some (34, 1) := by kernel_rfl
theorem gu35 : guS Tryd.prog 35 = true := by kernel_rfl
theorem ty3 : tyS Tryd.prog 3 = some (false, 1) := by kernel_rfl
theorem ty4 : tyS Tryd.prog 4 = some (false, 1) := by kernel_rfl
theorem ty5 : tyS Tryd.prog 5 = some (false, 1) := by kernel_rfl
theorem ty35 : tyS Tryd.prog 35 = some (true, 32) := by kernel_rfl
theorem ty46 : tyS Tryd.prog 46 = some (false, 1) := by kernel_rfl
theorem ty48 : tyS Tryd.prog 48 = some (true, 35) := by kernel_rfl
theorem mo : Tryd.prog.follows .mixedOrders = true := by kernel_rfl
end T29
open T29

set_option maxHeartbeats 800000 in
theorem SameEntries_c (es fs : List En) (a0 a1 : Option Addr) (c0 c1 : Nat) (hn : es.length ≤ 1000000) (w : World) (H : Froz) (hz : Fz H w) (hr : RdL H a0 35 (enE es)) (hr2 : RdL H a1 35 (enE fs)) (ho : EnsOK H es) (ho2 : EnsOK H fs) :
    CallsR Tryd.prog 24 [.slice a0 es.length c0, .slice a1 fs.length c1] w fun v w' => v = .bool (sameEs es fs) ∧ St ⟨w, H, []⟩ H [] w' := by
  refine calls_start Tryd.func24 rfl Tryd.ntmps24 rfl (fun a hF => ?_)
  have hS := St.start w H hz
  refine c_seq (fun K1 hK1 => ?_)
  refine c_reg ?_
  refine n_q hF hS (q_assign rfl) rfl (fun a hF => ?_)
  refine hK1 _ _ ?_
  refine c_seq (fun K2 hK2 => ?_)
  refine c_seq (fun K3 hK3 => ?_)
  refine c_reg ?_
  refine n_q hF hS (q_move rfl) rfl (fun a hF => ?_)
  refine n_q hF hS (q_len Tryd.underlying31 rfl rfl) rfl (fun a hF => ?_)
  refine n_q hF hS (q_move rfl) rfl (fun a hF => ?_)
  refine n_q hF hS (q_len Tryd.underlying31 rfl rfl) rfl (fun a hF => ?_)
  refine n_q hF hS (q_neI rfl rfl) rfl (fun a hF => ?_)
  refine hK3 _ _ ?_
  refine spn hF (s := 10) rfl (fun hc10 hF => ?_) (fun hc10 hF => ?_)
  · refine c_true hF rfl ?_
    refine c_seq (fun K4 hK4 => ?_)
    refine c_reg ?_
    refine n_q hF hS (q_assign rfl) rfl (fun a hF => ?_)
    refine hK4 _ _ ?_
    refine c_ret ?_
    repeat (first | refine ret_then ?_ | refine ret_blk ?_)
    refine c_ret' (P := Tryd.prog) (fn := Tryd.f24) rfl hF hS (.tmp rfl .nil) ⟨_, rfl, ?_⟩
    exact ⟨by show Value.bool _ = _; rw [sameEs_len (by omega)], hS.same⟩
  · refine c_false hF rfl ?_
    refine wp_skip ?_
    refine hK2 _ _ ?_
    refine c_seq (fun K5 hK5 => ?_)
    refine c_seq (fun K6 hK6 => ?_)
    refine c_reg ?_
    refine n_q hF hS (q_assign rfl) rfl (fun a hF => ?_)
    refine hK6 _ _ ?_
    refine c_block ?_
    refine c_loopL hF [4, 5, 11, 12, 13, 14, 15, 16, 17, 18, 19, 20, 21, 22, 23, 24, 25, 26, 27, 28, 29, 30, 31, 32, 33, 34, 35, 36, 37, 38, 39, 40, 41, 42, 43, 44, 45, 46, 47, 48, 49, 50, 51, 52, 53, 54, 55, 56, 57, 58, 59, 60, 61, 62, 63, 64, 65, 66, 67, 68]
      (fun k : Nat => [(5, .int .i64 (k : Int))])
      (fun _ => [])
      (fun k _ => k ≤ es.length ∧ ∀ (j : Nat) (h : j < k) (h1 : j < es.length) (h2 : j < fs.length), es[j].key = fs[j].key)
      (fun k => es.length - k) (0) ⟨rfl, trivial⟩ (hS) (⟨Nat.zero_le _, fun j h => absurd h (Nat.not_lt_zero _)⟩) ?_
    clear hF hS
    intro k a w H hle hF hS hJ
    replace hr := hr.mono hle
    replace hr2 := hr2.mono hle
    replace ho := ho.mono hle
    replace ho2 := ho2.mono hle
    have hl0 := Le.refl H
    obtain ⟨hk, hJ2⟩ := hJ
    try dsimp only at hF hS hk
    refine c_seq (fun K7 hK7 => ?_)
    refine c_seq (fun K8 hK8 => ?_)
    refine c_reg ?_
    refine n_q hF hS (q_move rfl) rfl (fun a hF => ?_)
    refine n_q hF hS (q_move rfl) rfl (fun a hF => ?_)
    refine n_q hF hS (q_len Tryd.underlying31 rfl rfl) rfl (fun a hF => ?_)
    refine n_q hF hS (q_lss rfl rfl) rfl (fun a hF => ?_)
    refine hK8 _ _ ?_
    refine spd hF (s := 14) rfl (fun hc14 hF => ?_) (fun hc14 hF => ?_)
    · refine c_true hF rfl ?_
      refine wp_skip ?_
      refine hK7 _ _ ?_
      refine c_seq (fun K9 hK9 => ?_)
      refine c_block ?_
      refine c_seq (fun K10 hK10 => ?_)
      have hlt : k < es.length := by omega
      have hlt2 : k < fs.length := by omega
      obtain ⟨e, hed⟩ : ∃ q, q = es[k] := ⟨_, rfl⟩
      obtain ⟨g, hgd⟩ : ∃ q, q = fs[k] := ⟨_, rfl⟩
      have hel : (enE es)[k]? = some e.c := by simp [enE, hlt, hed]
      have hgl : (enE fs)[k]? = some g.c := by simp [enE, hlt2, hgd]
      have hre := (ho e (by rw [hed]; exact List.getElem_mem hlt)).1
      have hrg := (ho2 g (by rw [hgd]; exact List.getElem_mem hlt2)).1
      refine r_start (fun L => L) [] mo hS (fun w hS => ?_)
      refine r_q (i := 0) rfl (by kernel_rfl) (by kernel_rfl) rfl (by kernel_rfl) (fun _ _ _ _ h => h) hF hS (q_move rfl) rfl (fun a hF => ?_)
      refine r_q (i := 1) rfl (by kernel_rfl) (by kernel_rfl) rfl (by kernel_rfl) (fun _ _ _ _ h => h) hF hS (q_move rfl) rfl (fun a hF => ?_)
      refine r_q (i := 2) rfl (by kernel_rfl) (by kernel_rfl) rfl (by kernel_rfl) (fun _ _ _ _ h => h) hF hS (q_indexAddrS Tryd.underlying31 ty48 rfl rfl (by omega) (hr.some (by simp [enE]; omega))) rfl (fun a hF => ?_)
      refine r_q (i := 3) rfl (by kernel_rfl) (by kernel_rfl) rfl (by kernel_rfl) (fun _ _ _ _ h => h) hF hS (q_fieldAddrE fl48_0 (by decide) rfl) rfl (fun a hF => ?_)
      refine r_q (i := 4) rfl (by kernel_rfl) (by kernel_rfl) rfl (by kernel_rfl) (fun _ _ _ _ h => h) hF hS (q_loadL (off := 0) (i := k) (v := .int .i64 e.kind) ty3 rfl hr hel (by decide) rfl rfl) rfl (fun a hF => ?_)
      refine r_q (i := 5) rfl (by kernel_rfl) (by kernel_rfl) rfl (by kernel_rfl) (fun _ _ _ _ h => h) hF hS (q_move rfl) rfl (fun a hF => ?_)
      refine r_q (i := 6) rfl (by kernel_rfl) (by kernel_rfl) rfl (by kernel_rfl) (fun _ _ _ _ h => h) hF hS (q_move rfl) rfl (fun a hF => ?_)
      refine r_q (i := 7) rfl (by kernel_rfl) (by kernel_rfl) rfl (by kernel_rfl) (fun _ _ _ _ h => h) hF hS (q_indexAddrS Tryd.underlying31 ty48 rfl rfl (by omega) (hr2.some (by simp [enE]; omega))) rfl (fun a hF => ?_)
      refine r_q (i := 8) rfl (by kernel_rfl) (by kernel_rfl) rfl (by kernel_rfl) (fun _ _ _ _ h => h) hF hS (q_fieldAddrE fl48_0 (by decide) rfl) rfl (fun a hF => ?_)
      refine r_q (i := 9) rfl (by kernel_rfl) (by kernel_rfl) rfl (by kernel_rfl) (fun _ _ _ _ h => h) hF hS (q_loadL (off := 0) (i := k) (v := .int .i64 g.kind) ty3 rfl hr2 hgl (by decide) rfl rfl) rfl (fun a hF => ?_)
      refine r_q (i := 10) rfl (by kernel_rfl) (by kernel_rfl) rfl (by kernel_rfl) (fun _ _ _ _ h => h) hF hS (q_neI rfl rfl) rfl (fun a hF => ?_)
      refine r_q (i := 11) rfl (by kernel_rfl) (by kernel_rfl) rfl (by kernel_rfl) (fun _ _ _ _ h => h) hF hS (q_move rfl) rfl (fun a hF => ?_)
      refine spn hF (s := 28) rfl (fun hc28 hF => ?_) (fun hc28 hF => ?_)
      · refine r_no (b := true) (i := 12) rfl (by kernel_rfl) (by kernel_rfl) rfl (by kernel_rfl) (fun _ _ _ _ h => h) hF hS rfl rfl rfl (fun a hF => ?_)
        refine r_no (b := true) (i := 13) rfl (by kernel_rfl) (by kernel_rfl) rfl (by kernel_rfl) (fun _ _ _ _ h => h) hF hS rfl rfl rfl (fun a hF => ?_)
        refine r_no (b := true) (i := 14) rfl (by kernel_rfl) (by kernel_rfl) rfl (by kernel_rfl) (fun _ _ _ _ h => h) hF hS rfl rfl rfl (fun a hF => ?_)
        refine r_no (b := true) (i := 15) rfl (by kernel_rfl) (by kernel_rfl) rfl (by kernel_rfl) (fun _ _ _ _ h => h) hF hS rfl rfl rfl (fun a hF => ?_)
        refine r_no (b := true) (i := 16) rfl (by kernel_rfl) (by kernel_rfl) rfl (by kernel_rfl) (fun _ _ _ _ h => h) hF hS rfl rfl rfl (fun a hF => ?_)
        refine r_no (b := true) (i := 17) rfl (by kernel_rfl) (by kernel_rfl) rfl (by kernel_rfl) (fun _ _ _ _ h => h) hF hS rfl rfl rfl (fun a hF => ?_)
        refine r_no (b := true) (i := 18) rfl (by kernel_rfl) (by kernel_rfl) rfl (by kernel_rfl) (fun _ _ _ _ h => h) hF hS rfl rfl rfl (fun a hF => ?_)
        refine r_no (b := true) (i := 19) rfl (by kernel_rfl) (by kernel_rfl) rfl (by kernel_rfl) (fun _ _ _ _ h => h) hF hS rfl rfl rfl (fun a hF => ?_)
        refine r_no (b := true) (i := 20) rfl (by kernel_rfl) (by kernel_rfl) rfl (by kernel_rfl) (fun _ _ _ _ h => h) hF hS rfl rfl rfl (fun a hF => ?_)
        refine r_no (b := true) (i := 21) rfl (by kernel_rfl) (by kernel_rfl) rfl (by kernel_rfl) (fun _ _ _ _ h => h) hF hS rfl rfl rfl (fun a hF => ?_)
        refine r_no (b := true) (i := 22) rfl (by kernel_rfl) (by kernel_rfl) rfl (by kernel_rfl) (fun _ _ _ _ h => h) hF hS rfl rfl rfl (fun a hF => ?_)
        refine r_q (i := 23) rfl (by kernel_rfl) (by kernel_rfl) rfl (by kernel_rfl) (fun _ _ _ _ h => h) hF hS (q_pick (b := true) rfl rfl) rfl (fun a hF => ?_)
        refine r_q (i := 24) rfl (by kernel_rfl) (by kernel_rfl) rfl (by kernel_rfl) (fun _ _ _ _ h => h) hF hS (q_move rfl) rfl (fun a hF => ?_)
        refine r_no (b := true) (i := 25) rfl (by kernel_rfl) (by kernel_rfl) rfl (by kernel_rfl) (fun _ _ _ _ h => h) hF hS rfl rfl rfl (fun a hF => ?_)
        refine r_no (b := true) (i := 26) rfl (by kernel_rfl) (by kernel_rfl) rfl (by kernel_rfl) (fun _ _ _ _ h => h) hF hS rfl rfl rfl (fun a hF => ?_)
        refine r_no (b := true) (i := 27) rfl (by kernel_rfl) (by kernel_rfl) rfl (by kernel_rfl) (fun _ _ _ _ h => h) hF hS rfl rfl rfl (fun a hF => ?_)
        refine r_no (b := true) (i := 28) rfl (by kernel_rfl) (by kernel_rfl) rfl (by kernel_rfl) (fun _ _ _ _ h => h) hF hS rfl rfl rfl (fun a hF => ?_)
        refine r_no (b := true) (i := 29) rfl (by kernel_rfl) (by kernel_rfl) rfl (by kernel_rfl) (fun _ _ _ _ h => h) hF hS rfl rfl rfl (fun a hF => ?_)
        refine r_no (b := true) (i := 30) rfl (by kernel_rfl) (by kernel_rfl) rfl (by kernel_rfl) (fun _ _ _ _ h => h) hF hS rfl rfl rfl (fun a hF => ?_)
        refine r_no (b := true) (i := 31) rfl (by kernel_rfl) (by kernel_rfl) rfl (by kernel_rfl) (fun _ _ _ _ h => h) hF hS rfl rfl rfl (fun a hF => ?_)
        refine r_no (b := true) (i := 32) rfl (by kernel_rfl) (by kernel_rfl) rfl (by kernel_rfl) (fun _ _ _ _ h => h) hF hS rfl rfl rfl (fun a hF => ?_)
        refine r_no (b := true) (i := 33) rfl (by kernel_rfl) (by kernel_rfl) rfl (by kernel_rfl) (fun _ _ _ _ h => h) hF hS rfl rfl rfl (fun a hF => ?_)
        refine r_no (b := true) (i := 34) rfl (by kernel_rfl) (by kernel_rfl) rfl (by kernel_rfl) (fun _ _ _ _ h => h) hF hS rfl rfl rfl (fun a hF => ?_)
        refine r_no (b := true) (i := 35) rfl (by kernel_rfl) (by kernel_rfl) rfl (by kernel_rfl) (fun _ _ _ _ h => h) hF hS rfl rfl rfl (fun a hF => ?_)
        refine r_no (b := true) (i := 36) rfl (by kernel_rfl) (by kernel_rfl) rfl (by kernel_rfl) (fun _ _ _ _ h => h) hF hS rfl rfl rfl (fun a hF => ?_)
        refine r_no (b := true) (i := 37) rfl (by kernel_rfl) (by kernel_rfl) rfl (by kernel_rfl) (fun _ _ _ _ h => h) hF hS rfl rfl rfl (fun a hF => ?_)
        refine r_q (i := 38) rfl (by kernel_rfl) (by kernel_rfl) rfl (by kernel_rfl) (fun _ _ _ _ h => h) hF hS (q_pick (b := true) rfl rfl) rfl (fun a hF => ?_)
        refine r_q (i := 39) rfl (by kernel_rfl) (by kernel_rfl) rfl (by kernel_rfl) (fun _ _ _ _ h => h) hF hS (q_move rfl) rfl (fun a hF => ?_)
        refine r_no (b := true) (i := 40) rfl (by kernel_rfl) (by kernel_rfl) rfl (by kernel_rfl) (fun _ _ _ _ h => h) hF hS rfl rfl rfl (fun a hF => ?_)
        refine r_no (b := true) (i := 41) rfl (by kernel_rfl) (by kernel_rfl) rfl (by kernel_rfl) (fun _ _ _ _ h => h) hF hS rfl rfl rfl (fun a hF => ?_)
        refine r_no (b := true) (i := 42) rfl (by kernel_rfl) (by kernel_rfl) rfl (by kernel_rfl) (fun _ _ _ _ h => h) hF hS rfl rfl rfl (fun a hF => ?_)
        refine r_no (b := true) (i := 43) rfl (by kernel_rfl) (by kernel_rfl) rfl (by kernel_rfl) (fun _ _ _ _ h => h) hF hS rfl rfl rfl (fun a hF => ?_)
        refine r_no (b := true) (i := 44) rfl (by kernel_rfl) (by kernel_rfl) rfl (by kernel_rfl) (fun _ _ _ _ h => h) hF hS rfl rfl rfl (fun a hF => ?_)
        refine r_no (b := true) (i := 45) rfl (by kernel_rfl) (by kernel_rfl) rfl (by kernel_rfl) (fun _ _ _ _ h => h) hF hS rfl rfl rfl (fun a hF => ?_)
        refine r_no (b := true) (i := 46) rfl (by kernel_rfl) (by kernel_rfl) rfl (by kernel_rfl) (fun _ _ _ _ h => h) hF hS rfl rfl rfl (fun a hF => ?_)
        refine r_no (b := true) (i := 47) rfl (by kernel_rfl) (by kernel_rfl) rfl (by kernel_rfl) (fun _ _ _ _ h => h) hF hS rfl rfl rfl (fun a hF => ?_)
        refine r_no (b := true) (i := 48) rfl (by kernel_rfl) (by kernel_rfl) rfl (by kernel_rfl) (fun _ _ _ _ h => h) hF hS rfl rfl rfl (fun a hF => ?_)
        refine r_no (b := true) (i := 49) rfl (by kernel_rfl) (by kernel_rfl) rfl (by kernel_rfl) (fun _ _ _ _ h => h) hF hS rfl rfl rfl (fun a hF => ?_)
        refine r_no (b := true) (i := 50) rfl (by kernel_rfl) (by kernel_rfl) rfl (by kernel_rfl) (fun _ _ _ _ h => h) hF hS rfl rfl rfl (fun a hF => ?_)
        refine r_q (i := 51) rfl (by kernel_rfl) (by kernel_rfl) rfl (by kernel_rfl) (fun _ _ _ _ h => h) hF hS (q_pick (b := true) rfl rfl) rfl (fun a hF => ?_)
        refine r_done (by kernel_rfl) ?_
        refine hK10 _ _ ?_
        refine c_true hF rfl ?_
        refine c_seq (fun K11 hK11 => ?_)
        refine c_reg ?_
        refine n_q hF hS (q_assign rfl) rfl (fun a hF => ?_)
        refine hK11 _ _ ?_
        refine c_ret ?_
        repeat (first | refine ret_then ?_ | refine ret_blk ?_)
        refine c_ret' (P := Tryd.prog) (fn := Tryd.f24) rfl hF hS (.tmp rfl .nil) ⟨_, rfl, ?_⟩
        exact ⟨by show Value.bool _ = _; rw [sameEs_no hlt hlt2 (by rw [← hed, ← hgd]; first | exact key_ne1 (by omega) | exact key_ne2 hc40 | exact key_ne3 hc55 | exact key_ne4 hc68)], hS.same⟩
      · refine r_qg (i := 12) rfl (by kernel_rfl) (by kernel_rfl) rfl (by kernel_rfl) (fun _ _ _ _ h => h) hF hS rfl (q_move rfl) rfl (fun a hF => ?_)
        refine r_qg (i := 13) rfl (by kernel_rfl) (by kernel_rfl) rfl (by kernel_rfl) (fun _ _ _ _ h => h) hF hS rfl (q_move rfl) rfl (fun a hF => ?_)
        refine r_qg (i := 14) rfl (by kernel_rfl) (by kernel_rfl) rfl (by kernel_rfl) (fun _ _ _ _ h => h) hF hS rfl (q_indexAddrS Tryd.underlying31 ty48 rfl rfl (by omega) (hr.some (by simp [enE]; omega))) rfl (fun a hF => ?_)
        refine r_qg (i := 15) rfl (by kernel_rfl) (by kernel_rfl) rfl (by kernel_rfl) (fun _ _ _ _ h => h) hF hS rfl (q_fieldAddrE fl48_1 (by decide) rfl) rfl (fun a hF => ?_)
        refine r_qg (i := 16) rfl (by kernel_rfl) (by kernel_rfl) rfl (by kernel_rfl) (fun _ _ _ _ h => h) hF hS rfl (q_loadL (off := 1) (i := k) (v := .agg (dc e.dg).toArray) ty35 rfl hr hel (by decide) rfl (En.ld_dg e)) rfl (fun a hF => ?_)
        refine r_qg (i := 17) rfl (by kernel_rfl) (by kernel_rfl) rfl (by kernel_rfl) (fun _ _ _ _ h => h) hF hS rfl (q_move rfl) rfl (fun a hF => ?_)
        refine r_qg (i := 18) rfl (by kernel_rfl) (by kernel_rfl) rfl (by kernel_rfl) (fun _ _ _ _ h => h) hF hS rfl (q_move rfl) rfl (fun a hF => ?_)
        refine r_qg (i := 19) rfl (by kernel_rfl) (by kernel_rfl) rfl (by kernel_rfl) (fun _ _ _ _ h => h) hF hS rfl (q_indexAddrS Tryd.underlying31 ty48 rfl rfl (by omega) (hr2.some (by simp [enE]; omega))) rfl (fun a hF => ?_)
        refine r_qg (i := 20) rfl (by kernel_rfl) (by kernel_rfl) rfl (by kernel_rfl) (fun _ _ _ _ h => h) hF hS rfl (q_fieldAddrE fl48_1 (by decide) rfl) rfl (fun a hF => ?_)
        refine r_qg (i := 21) rfl (by kernel_rfl) (by kernel_rfl) rfl (by kernel_rfl) (fun _ _ _ _ h => h) hF hS rfl (q_loadL (off := 1) (i := k) (v := .agg (dc g.dg).toArray) ty35 rfl hr2 hgl (by decide) rfl (En.ld_dg g)) rfl (fun a hF => ?_)
        refine r_qg (i := 22) rfl (by kernel_rfl) (by kernel_rfl) rfl (by kernel_rfl) (fun _ _ _ _ h => h) hF hS rfl (q_neDg gu35 Tryd.underlying35 Tryd.underlying5 ty5 rfl rfl) rfl (fun a hF => ?_)
        refine r_q (i := 23) rfl (by kernel_rfl) (by kernel_rfl) rfl (by kernel_rfl) (fun _ _ _ _ h => h) hF hS (q_pick (b := false) rfl rfl) rfl (fun a hF => ?_)
        refine r_q (i := 24) rfl (by kernel_rfl) (by kernel_rfl) rfl (by kernel_rfl) (fun _ _ _ _ h => h) hF hS (q_move rfl) rfl (fun a hF => ?_)
        refine spn hF (s := 41) rfl (fun hc40 hF => ?_) (fun hc40 hF => ?_)
        · refine r_no (b := true) (i := 25) rfl (by kernel_rfl) (by kernel_rfl) rfl (by kernel_rfl) (fun _ _ _ _ h => h) hF hS rfl rfl rfl (fun a hF => ?_)
          refine r_no (b := true) (i := 26) rfl (by kernel_rfl) (by kernel_rfl) rfl (by kernel_rfl) (fun _ _ _ _ h => h) hF hS rfl rfl rfl (fun a hF => ?_)
          refine r_no (b := true) (i := 27) rfl (by kernel_rfl) (by kernel_rfl) rfl (by kernel_rfl) (fun _ _ _ _ h => h) hF hS rfl rfl rfl (fun a hF => ?_)
          refine r_no (b := true) (i := 28) rfl (by kernel_rfl) (by kernel_rfl) rfl (by kernel_rfl) (fun _ _ _ _ h => h) hF hS rfl rfl rfl (fun a hF => ?_)
          refine r_no (b := true) (i := 29) rfl (by kernel_rfl) (by kernel_rfl) rfl (by kernel_rfl) (fun _ _ _ _ h => h) hF hS rfl rfl rfl (fun a hF => ?_)
          refine r_no (b := true) (i := 30) rfl (by kernel_rfl) (by kernel_rfl) rfl (by kernel_rfl) (fun _ _ _ _ h => h) hF hS rfl rfl rfl (fun a hF => ?_)
          refine r_no (b := true) (i := 31) rfl (by kernel_rfl) (by kernel_rfl) rfl (by kernel_rfl) (fun _ _ _ _ h => h) hF hS rfl rfl rfl (fun a hF => ?_)
          refine r_no (b := true) (i := 32) rfl (by kernel_rfl) (by kernel_rfl) rfl (by kernel_rfl) (fun _ _ _ _ h => h) hF hS rfl rfl rfl (fun a hF => ?_)
          refine r_no (b := true) (i := 33) rfl (by kernel_rfl) (by kernel_rfl) rfl (by kernel_rfl) (fun _ _ _ _ h => h) hF hS rfl rfl rfl (fun a hF => ?_)
          refine r_no (b := true) (i := 34) rfl (by kernel_rfl) (by kernel_rfl) rfl (by kernel_rfl) (fun _ _ _ _ h => h) hF hS rfl rfl rfl (fun a hF => ?_)
          refine r_no (b := true) (i := 35) rfl (by kernel_rfl) (by kernel_rfl) rfl (by kernel_rfl) (fun _ _ _ _ h => h) hF hS rfl rfl rfl (fun a hF => ?_)
          refine r_no (b := true) (i := 36) rfl (by kernel_rfl) (by kernel_rfl) rfl (by kernel_rfl) (fun _ _ _ _ h => h) hF hS rfl rfl rfl (fun a hF => ?_)
          refine r_no (b := true) (i := 37) rfl (by kernel_rfl) (by kernel_rfl) rfl (by kernel_rfl) (fun _ _ _ _ h => h) hF hS rfl rfl rfl (fun a hF => ?_)
          refine r_q (i := 38) rfl (by kernel_rfl) (by kernel_rfl) rfl (by kernel_rfl) (fun _ _ _ _ h => h) hF hS (q_pick (b := true) rfl rfl) rfl (fun a hF => ?_)
          refine r_q (i := 39) rfl (by kernel_rfl) (by kernel_rfl) rfl (by kernel_rfl) (fun _ _ _ _ h => h) hF hS (q_move rfl) rfl (fun a hF => ?_)
          refine r_no (b := true) (i := 40) rfl (by kernel_rfl) (by kernel_rfl) rfl (by kernel_rfl) (fun _ _ _ _ h => h) hF hS rfl rfl rfl (fun a hF => ?_)
          refine r_no (b := true) (i := 41) rfl (by kernel_rfl) (by kernel_rfl) rfl (by kernel_rfl) (fun _ _ _ _ h => h) hF hS rfl rfl rfl (fun a hF => ?_)
          refine r_no (b := true) (i := 42) rfl (by kernel_rfl) (by kernel_rfl) rfl (by kernel_rfl) (fun _ _ _ _ h => h) hF hS rfl rfl rfl (fun a hF => ?_)
          refine r_no (b := true) (i := 43) rfl (by kernel_rfl) (by kernel_rfl) rfl (by kernel_rfl) (fun _ _ _ _ h => h) hF hS rfl rfl rfl (fun a hF => ?_)
          refine r_no (b := true) (i := 44) rfl (by kernel_rfl) (by kernel_rfl) rfl (by kernel_rfl) (fun _ _ _ _ h => h) hF hS rfl rfl rfl (fun a hF => ?_)
          refine r_no (b := true) (i := 45) rfl (by kernel_rfl) (by kernel_rfl) rfl (by kernel_rfl) (fun _ _ _ _ h => h) hF hS rfl rfl rfl (fun a hF => ?_)
          refine r_no (b := true) (i := 46) rfl (by kernel_rfl) (by kernel_rfl) rfl (by kernel_rfl) (fun _ _ _ _ h => h) hF hS rfl rfl rfl (fun a hF => ?_)
          refine r_no (b := true) (i := 47) rfl (by kernel_rfl) (by kernel_rfl) rfl (by kernel_rfl) (fun _ _ _ _ h => h) hF hS rfl rfl rfl (fun a hF => ?_)
          refine r_no (b := true) (i := 48) rfl (by kernel_rfl) (by kernel_rfl) rfl (by kernel_rfl) (fun _ _ _ _ h => h) hF hS rfl rfl rfl (fun a hF => ?_)
          refine r_no (b := true) (i := 49) rfl (by kernel_rfl) (by kernel_rfl) rfl (by kernel_rfl) (fun _ _ _ _ h => h) hF hS rfl rfl rfl (fun a hF => ?_)
          refine r_no (b := true) (i := 50) rfl (by kernel_rfl) (by kernel_rfl) rfl (by kernel_rfl) (fun _ _ _ _ h => h) hF hS rfl rfl rfl (fun a hF => ?_)
          refine r_q (i := 51) rfl (by kernel_rfl) (by kernel_rfl) rfl (by kernel_rfl) (fun _ _ _ _ h => h) hF hS (q_pick (b := true) rfl rfl) rfl (fun a hF => ?_)
          refine r_done (by kernel_rfl) ?_
          refine hK10 _ _ ?_
          refine c_true hF rfl ?_
          refine c_seq (fun K12 hK12 => ?_)
          refine c_reg ?_
          refine n_q hF hS (q_assign rfl) rfl (fun a hF => ?_)
          refine hK12 _ _ ?_
          refine c_ret ?_
          repeat (first | refine ret_then ?_ | refine ret_blk ?_)
          refine c_ret' (P := Tryd.prog) (fn := Tryd.f24) rfl hF hS (.tmp rfl .nil) ⟨_, rfl, ?_⟩
          exact ⟨by show Value.bool _ = _; rw [sameEs_no hlt hlt2 (by rw [← hed, ← hgd]; first | exact key_ne1 (by omega) | exact key_ne2 hc40 | exact key_ne3 hc55 | exact key_ne4 hc68)], hS.same⟩
        · refine r_qg (i := 25) rfl (by kernel_rfl) (by kernel_rfl) rfl (by kernel_rfl) (fun _ _ _ _ h => h) hF hS rfl (q_move rfl) rfl (fun a hF => ?_)
          refine r_qg (i := 26) rfl (by kernel_rfl) (by kernel_rfl) rfl (by kernel_rfl) (fun _ _ _ _ h => h) hF hS rfl (q_move rfl) rfl (fun a hF => ?_)
          refine r_qg (i := 27) rfl (by kernel_rfl) (by kernel_rfl) rfl (by kernel_rfl) (fun _ _ _ _ h => h) hF hS rfl (q_indexAddrS Tryd.underlying31 ty48 rfl rfl (by omega) (hr.some (by simp [enE]; omega))) rfl (fun a hF => ?_)
          refine r_qg (i := 28) rfl (by kernel_rfl) (by kernel_rfl) rfl (by kernel_rfl) (fun _ _ _ _ h => h) hF hS rfl (q_fieldAddrE fl48_2 (by decide) rfl) rfl (fun a hF => ?_)
          refine r_qg (i := 29) rfl (by kernel_rfl) (by kernel_rfl) rfl (by kernel_rfl) (fun _ _ _ _ h => h) hF hS rfl (q_loadL (off := 33) (i := k) (v := .slice e.da e.dn e.dp) ty46 rfl hr hel (by decide) rfl (En.ld_da e)) rfl (fun a hF => ?_)
          refine r_qg (i := 30) rfl (by kernel_rfl) (by kernel_rfl) rfl (by kernel_rfl) (fun _ _ _ _ h => h) hF hS rfl (q_convBSn (l := e.bs) Tryd.underlying46 Tryd.underlying5 Tryd.underlying9 rfl hre) rfl (fun a hF => ?_)
          refine r_qg (i := 31) rfl (by kernel_rfl) (by kernel_rfl) rfl (by kernel_rfl) (fun _ _ _ _ h => h) hF hS rfl (q_move rfl) rfl (fun a hF => ?_)
          refine r_qg (i := 32) rfl (by kernel_rfl) (by kernel_rfl) rfl (by kernel_rfl) (fun _ _ _ _ h => h) hF hS rfl (q_move rfl) rfl (fun a hF => ?_)
          refine r_qg (i := 33) rfl (by kernel_rfl) (by kernel_rfl) rfl (by kernel_rfl) (fun _ _ _ _ h => h) hF hS rfl (q_indexAddrS Tryd.underlying31 ty48 rfl rfl (by omega) (hr2.some (by simp [enE]; omega))) rfl (fun a hF => ?_)
          refine r_qg (i := 34) rfl (by kernel_rfl) (by kernel_rfl) rfl (by kernel_rfl) (fun _ _ _ _ h => h) hF hS rfl (q_fieldAddrE fl48_2 (by decide) rfl) rfl (fun a hF => ?_)
          refine r_qg (i := 35) rfl (by kernel_rfl) (by kernel_rfl) rfl (by kernel_rfl) (fun _ _ _ _ h => h) hF hS rfl (q_loadL (off := 33) (i := k) (v := .slice g.da g.dn g.dp) ty46 rfl hr2 hgl (by decide) rfl (En.ld_da g)) rfl (fun a hF => ?_)
          refine r_qg (i := 36) rfl (by kernel_rfl) (by kernel_rfl) rfl (by kernel_rfl) (fun _ _ _ _ h => h) hF hS rfl (q_convBSn (l := g.bs) Tryd.underlying46 Tryd.underlying5 Tryd.underlying9 rfl hrg) rfl (fun a hF => ?_)
          refine r_qg (i := 37) rfl (by kernel_rfl) (by kernel_rfl) rfl (by kernel_rfl) (fun _ _ _ _ h => h) hF hS rfl (q_neStr rfl rfl) rfl (fun a hF => ?_)
          refine r_q (i := 38) rfl (by kernel_rfl) (by kernel_rfl) rfl (by kernel_rfl) (fun _ _ _ _ h => h) hF hS (q_pick (b := false) rfl rfl) rfl (fun a hF => ?_)
          refine r_q (i := 39) rfl (by kernel_rfl) (by kernel_rfl) rfl (by kernel_rfl) (fun _ _ _ _ h => h) hF hS (q_move rfl) rfl (fun a hF => ?_)
          refine spn hF (s := 56) rfl (fun hc55 hF => ?_) (fun hc55 hF => ?_)
          · refine r_no (b := true) (i := 40) rfl (by kernel_rfl) (by kernel_rfl) rfl (by kernel_rfl) (fun _ _ _ _ h => h) hF hS rfl rfl rfl (fun a hF => ?_)
            refine r_no (b := true) (i := 41) rfl (by kernel_rfl) (by kernel_rfl) rfl (by kernel_rfl) (fun _ _ _ _ h => h) hF hS rfl rfl rfl (fun a hF => ?_)
            refine r_no (b := true) (i := 42) rfl (by kernel_rfl) (by kernel_rfl) rfl (by kernel_rfl) (fun _ _ _ _ h => h) hF hS rfl rfl rfl (fun a hF => ?_)
            refine r_no (b := true) (i := 43) rfl (by kernel_rfl) (by kernel_rfl) rfl (by kernel_rfl) (fun _ _ _ _ h => h) hF hS rfl rfl rfl (fun a hF => ?_)
            refine r_no (b := true) (i := 44) rfl (by kernel_rfl) (by kernel_rfl) rfl (by kernel_rfl) (fun _ _ _ _ h => h) hF hS rfl rfl rfl (fun a hF => ?_)
            refine r_no (b := true) (i := 45) rfl (by kernel_rfl) (by kernel_rfl) rfl (by kernel_rfl) (fun _ _ _ _ h => h) hF hS rfl rfl rfl (fun a hF => ?_)
            refine r_no (b := true) (i := 46) rfl (by kernel_rfl) (by kernel_rfl) rfl (by kernel_rfl) (fun _ _ _ _ h => h) hF hS rfl rfl rfl (fun a hF => ?_)
            refine r_no (b := true) (i := 47) rfl (by kernel_rfl) (by kernel_rfl) rfl (by kernel_rfl) (fun _ _ _ _ h => h) hF hS rfl rfl rfl (fun a hF => ?_)
            refine r_no (b := true) (i := 48) rfl (by kernel_rfl) (by kernel_rfl) rfl (by kernel_rfl) (fun _ _ _ _ h => h) hF hS rfl rfl rfl (fun a hF => ?_)
            refine r_no (b := true) (i := 49) rfl (by kernel_rfl) (by kernel_rfl) rfl (by kernel_rfl) (fun _ _ _ _ h => h) hF hS rfl rfl rfl (fun a hF => ?_)
            refine r_no (b := true) (i := 50) rfl (by kernel_rfl) (by kernel_rfl) rfl (by kernel_rfl) (fun _ _ _ _ h => h) hF hS rfl rfl rfl (fun a hF => ?_)
            refine r_q (i := 51) rfl (by kernel_rfl) (by kernel_rfl) rfl (by kernel_rfl) (fun _ _ _ _ h => h) hF hS (q_pick (b := true) rfl rfl) rfl (fun a hF => ?_)
            refine r_done (by kernel_rfl) ?_
            refine hK10 _ _ ?_
            refine c_true hF rfl ?_
            refine c_seq (fun K13 hK13 => ?_)
            refine c_reg ?_
            refine n_q hF hS (q_assign rfl) rfl (fun a hF => ?_)
            refine hK13 _ _ ?_
            refine c_ret ?_
            repeat (first | refine ret_then ?_ | refine ret_blk ?_)
            refine c_ret' (P := Tryd.prog) (fn := Tryd.f24) rfl hF hS (.tmp rfl .nil) ⟨_, rfl, ?_⟩
            exact ⟨by show Value.bool _ = _; rw [sameEs_no hlt hlt2 (by rw [← hed, ← hgd]; first | exact key_ne1 (by omega) | exact key_ne2 hc40 | exact key_ne3 hc55 | exact key_ne4 hc68)], hS.same⟩
          · refine r_qg (i := 40) rfl (by kernel_rfl) (by kernel_rfl) rfl (by kernel_rfl) (fun _ _ _ _ h => h) hF hS rfl (q_move rfl) rfl (fun a hF => ?_)
            refine r_qg (i := 41) rfl (by kernel_rfl) (by kernel_rfl) rfl (by kernel_rfl) (fun _ _ _ _ h => h) hF hS rfl (q_move rfl) rfl (fun a hF => ?_)
            refine r_qg (i := 42) rfl (by kernel_rfl) (by kernel_rfl) rfl (by kernel_rfl) (fun _ _ _ _ h => h) hF hS rfl (q_indexAddrS Tryd.underlying31 ty48 rfl rfl (by omega) (hr.some (by simp [enE]; omega))) rfl (fun a hF => ?_)
            refine r_qg (i := 43) rfl (by kernel_rfl) (by kernel_rfl) rfl (by kernel_rfl) (fun _ _ _ _ h => h) hF hS rfl (q_fieldAddrE fl48_3 (by decide) rfl) rfl (fun a hF => ?_)
            refine r_qg (i := 44) rfl (by kernel_rfl) (by kernel_rfl) rfl (by kernel_rfl) (fun _ _ _ _ h => h) hF hS rfl (q_loadL (off := 34) (i := k) (v := .bool e.gone) ty4 rfl hr hel (by decide) rfl (En.ld_go e)) rfl (fun a hF => ?_)
            refine r_qg (i := 45) rfl (by kernel_rfl) (by kernel_rfl) rfl (by kernel_rfl) (fun _ _ _ _ h => h) hF hS rfl (q_move rfl) rfl (fun a hF => ?_)
            refine r_qg (i := 46) rfl (by kernel_rfl) (by kernel_rfl) rfl (by kernel_rfl) (fun _ _ _ _ h => h) hF hS rfl (q_move rfl) rfl (fun a hF => ?_)
            refine r_qg (i := 47) rfl (by kernel_rfl) (by kernel_rfl) rfl (by kernel_rfl) (fun _ _ _ _ h => h) hF hS rfl (q_indexAddrS Tryd.underlying31 ty48 rfl rfl (by omega) (hr2.some (by simp [enE]; omega))) rfl (fun a hF => ?_)
            refine r_qg (i := 48) rfl (by kernel_rfl) (by kernel_rfl) rfl (by kernel_rfl) (fun _ _ _ _ h => h) hF hS rfl (q_fieldAddrE fl48_3 (by decide) rfl) rfl (fun a hF => ?_)
            refine r_qg (i := 49) rfl (by kernel_rfl) (by kernel_rfl) rfl (by kernel_rfl) (fun _ _ _ _ h => h) hF hS rfl (q_loadL (off := 34) (i := k) (v := .bool g.gone) ty4 rfl hr2 hgl (by decide) rfl (En.ld_go g)) rfl (fun a hF => ?_)
            refine r_qg (i := 50) rfl (by kernel_rfl) (by kernel_rfl) rfl (by kernel_rfl) (fun _ _ _ _ h => h) hF hS rfl (q_neB Tryd.underlying4 rfl rfl) rfl (fun a hF => ?_)
            refine r_q (i := 51) rfl (by kernel_rfl) (by kernel_rfl) rfl (by kernel_rfl) (fun _ _ _ _ h => h) hF hS (q_pick (b := false) rfl rfl) rfl (fun a hF => ?_)
            refine r_done (by kernel_rfl) ?_
            refine hK10 _ _ ?_
            refine sp hF (s := 68) rfl (fun hc68 hF => ?_) (fun hc68 hF => ?_)
            · refine c_true hF rfl ?_
              refine c_seq (fun K14 hK14 => ?_)
              refine c_reg ?_
              refine n_q hF hS (q_assign rfl) rfl (fun a hF => ?_)
              refine hK14 _ _ ?_
              refine c_ret ?_
              repeat (first | refine ret_then ?_ | refine ret_blk ?_)
              refine c_ret' (P := Tryd.prog) (fn := Tryd.f24) rfl hF hS (.tmp rfl .nil) ⟨_, rfl, ?_⟩
              exact ⟨by show Value.bool _ = _; rw [sameEs_no hlt hlt2 (by rw [← hed, ← hgd]; first | exact key_ne1 (by omega) | exact key_ne2 hc40 | exact key_ne3 hc55 | exact key_ne4 hc68)], hS.same⟩
            · refine c_false hF rfl ?_
              refine wp_skip ?_
              refine hK9 _ _ ?_
              refine c_reg ?_
              refine n_q hF hS (q_move rfl) rfl (fun a hF => ?_)
              refine n_q hF hS (q_addI rfl rfl (by omega)) rfl (fun a hF => ?_)
              refine n_q hF hS (q_assign rfl) rfl (fun a hF => ?_)
              have hke : e.key = g.key := key_eq (by omega) hc40 hc55 hc68
              exact ⟨k + 1, _, (by show es.length - (k + 1) < es.length - k; omega), hl0, hF.back ⟨rfl, trivial⟩ rfl (by repeat first | exact Ext.refl _ _ | refine Ext.rem' rfl ?_ | refine Ext.push rfl ?_), hS.lose (.refl _), ⟨by show k + 1 ≤ es.length; omega, fun j h h1 h2 => by rcases Nat.lt_succ_iff_lt_or_eq.1 h with h | rfl; exact hJ2 j h h1 h2; rw [← hed, ← hgd]; exact hke⟩⟩
    · refine c_false hF rfl ?_
      refine c_exit ?_
      refine hK5 _ _ ?_
      refine c_seq (fun K15 hK15 => ?_)
      refine c_reg ?_
      refine n_q hF hS (q_assign rfl) rfl (fun a hF => ?_)
      refine hK15 _ _ ?_
      refine c_ret ?_
      repeat (first | refine ret_then ?_ | refine ret_blk ?_)
      refine c_ret' (P := Tryd.prog) (fn := Tryd.f24) rfl hF hS (.tmp rfl .nil) ⟨_, rfl, ?_⟩
      have hke : k = es.length := by omega
      exact ⟨by show Value.bool _ = _; rw [sameEs_yes (by omega) (fun j h1 h2 => hJ2 j (by omega) h1 h2)], hS.same⟩
end Go.Proofs.YtneokajhmonpaaaDoor
namespace Go.Proofs.YtneokajhmonpaaaDoor
open Go Go.RowKit Go.W
set_option maxRecDepth 10000
namespace T30
theorem en24 : enS Tryd.prog 24 = true := by kernel_rfl
theorem fl26_0 : flS Tryd.prog 26 0 = some (0, 1) := by kernel_rfl
theorem fl26_1 : flS Tryd.prog 26 1 = some (1, 1) := by kernel_rfl
theorem fl26_2 : flS Tryd.prog 26 2 = some (2, 1) := by kernel_rfl
theorem fl100_0 : flS Tryd.prog 100 0 = some (0, 1) := by kernel_rfl
theorem fl100_1 : flS Tryd.prog 100 1 = some (1, 1) := by kernel_rfl
theorem ty3 : tyS Tryd.prog 3 = some (false, 1) := by kernel_rfl
theorem ty24 : tyS Tryd.prog 24 = some (false, 1) := by kernel_rfl
theorem ty31 : tyS Tryd.prog 31 = some (false, 1) := by kernel_rfl
theorem ty100 : tyS Tryd.prog 100 = some (true, 2) := by kernel_rfl
theorem mo : Tryd.prog.follows .mixedOrders = true := by kernel_rfl
end T30
open T30

set_option maxHeartbeats 800000 in
theorem Same_c (s t : Sto) (w : World) (H : Froz) (hz : Fz H w) (ho : StOK H s) (ho2 : StOK H t) :
    CallsR Tryd.prog 21 [.agg s.c.toArray, .agg t.c.toArray] w fun v w' => v = .bool (sameSt s t) ∧ St ⟨w, H, []⟩ H [] w' := by
  refine calls_start Tryd.func21 rfl Tryd.ntmps21 rfl (fun a hF => ?_)
  have hS := St.start w H hz
  have hsl := ho.len
  refine c_seq (fun K1 hK1 => ?_)
  refine c_reg ?_
  refine n_l rfl (fun K2 hK2 => l_boxA hF hS rfl rfl (fun a w b1 hF hS => hK2 _ _ ?_))
  refine n_l rfl (fun K3 hK3 => l_boxA hF hS rfl rfl (fun a w b2 hF hS => hK3 _ _ ?_))
  refine n_q hF hS (q_assign rfl) rfl (fun a hF => ?_)
  refine hK1 _ _ ?_
  refine c_seq (fun K4 hK4 => ?_)
  refine c_seq (fun K5 hK5 => ?_)
  refine c_reg ?_
  obtain ⟨H_hbx, hH_hbx, hle_hbx, hS_hbx⟩ := hS.freeze' (i := 1) rfl
  replace hS := hS_hbx
  replace ho := ho.mono hle_hbx
  replace ho2 := ho2.mono hle_hbx
  have hbx : HR H_hbx b1 s.c := by rw [hH_hbx]; exact frz_hr
  obtain ⟨H_hby, hH_hby, hle_hby, hS_hby⟩ := hS.freeze' (i := 0) rfl
  replace hS := hS_hby
  replace ho := ho.mono hle_hby
  replace ho2 := ho2.mono hle_hby
  replace hbx := hbx.mono hle_hby
  have hby : HR H_hby b2 t.c := by rw [hH_hby]; exact frz_hr
  refine n_q hF hS (q_fieldAddr fl26_0 (by decide) rfl) rfl (fun a hF => ?_)
  refine n_q hF hS (q_loadG (o := 0 + 0) (v := .int .i64 s.id) ty3 rfl hbx.h (Nat.le_of_ble_eq_true rfl) rfl rfl) rfl (fun a hF => ?_)
  refine n_q hF hS (q_fieldAddr fl26_0 (by decide) rfl) rfl (fun a hF => ?_)
  refine n_q hF hS (q_loadG (o := 0 + 0) (v := .int .i64 t.id) ty3 rfl hby.h (Nat.le_of_ble_eq_true rfl) rfl rfl) rfl (fun a hF => ?_)
  refine n_q hF hS (q_neI rfl rfl) rfl (fun a hF => ?_)
  refine n_q hF hS (q_move rfl) rfl (fun a hF => ?_)
  refine spn hF (s := 11) rfl (fun hc11 hF => ?_) (fun hc11 hF => ?_)
  · refine n_no hF (b := true) rfl rfl rfl (fun a hF => ?_)
    refine n_no hF (b := true) rfl rfl rfl (fun a hF => ?_)
    refine n_no hF (b := true) rfl rfl rfl (fun a hF => ?_)
    refine n_no hF (b := true) rfl rfl rfl (fun a hF => ?_)
    refine n_no hF (b := true) rfl rfl rfl (fun a hF => ?_)
    refine n_q hF hS (q_pick (b := true) rfl rfl) rfl (fun a hF => ?_)
    refine n_q hF hS (q_move rfl) rfl (fun a hF => ?_)
    refine n_no hF (b := true) rfl rfl rfl (fun a hF => ?_)
    refine n_no hF (b := true) rfl rfl rfl (fun a hF => ?_)
    refine n_no hF (b := true) rfl rfl rfl (fun a hF => ?_)
    refine n_no hF (b := true) rfl rfl rfl (fun a hF => ?_)
    refine n_no hF (b := true) rfl rfl rfl (fun a hF => ?_)
    refine n_no hF (b := true) rfl rfl rfl (fun a hF => ?_)
    refine n_no hF (b := true) rfl rfl rfl (fun a hF => ?_)
    refine n_q hF hS (q_pick (b := true) rfl rfl) rfl (fun a hF => ?_)
    refine hK5 _ _ ?_
    refine c_true hF rfl ?_
    refine c_seq (fun K6 hK6 => ?_)
    refine c_reg ?_
    refine n_q hF hS (q_assign rfl) rfl (fun a hF => ?_)
    refine hK6 _ _ ?_
    refine c_ret ?_
    repeat (first | refine ret_then ?_ | refine ret_blk ?_)
    refine c_ret' (P := Tryd.prog) (fn := Tryd.f21) rfl hF hS (.tmp rfl .nil) ⟨_, rfl, ?_⟩
    exact ⟨by show Value.bool _ = _; rw [sameSt_no (by omega)], hS.same⟩
  · refine n_yes hF rfl ?_
    refine n_q hF hS (q_fieldAddr fl26_1 (by decide) rfl) rfl (fun a hF => ?_)
    refine n_yes hF rfl ?_
    refine n_q hF hS (q_loadG (o := 0 + 1) (v := .int .i64 s.priv) ty3 rfl hbx.h (Nat.le_of_ble_eq_true rfl) rfl rfl) rfl (fun a hF => ?_)
    refine n_yes hF rfl ?_
    refine n_q hF hS (q_fieldAddr fl26_1 (by decide) rfl) rfl (fun a hF => ?_)
    refine n_yes hF rfl ?_
    refine n_q hF hS (q_loadG (o := 0 + 1) (v := .int .i64 t.priv) ty3 rfl hby.h (Nat.le_of_ble_eq_true rfl) rfl rfl) rfl (fun a hF => ?_)
    refine n_yes hF rfl ?_
    refine n_q hF hS (q_neI rfl rfl) rfl (fun a hF => ?_)
    refine n_q hF hS (q_pick (b := false) rfl rfl) rfl (fun a hF => ?_)
    refine n_q hF hS (q_move rfl) rfl (fun a hF => ?_)
    refine spn hF (s := 18) rfl (fun hc18 hF => ?_) (fun hc18 hF => ?_)
    · refine n_no hF (b := true) rfl rfl rfl (fun a hF => ?_)
      refine n_no hF (b := true) rfl rfl rfl (fun a hF => ?_)
      refine n_no hF (b := true) rfl rfl rfl (fun a hF => ?_)
      refine n_no hF (b := true) rfl rfl rfl (fun a hF => ?_)
      refine n_no hF (b := true) rfl rfl rfl (fun a hF => ?_)
      refine n_no hF (b := true) rfl rfl rfl (fun a hF => ?_)
      refine n_no hF (b := true) rfl rfl rfl (fun a hF => ?_)
      refine n_q hF hS (q_pick (b := true) rfl rfl) rfl (fun a hF => ?_)
      refine hK5 _ _ ?_
      refine c_true hF rfl ?_
      refine c_seq (fun K7 hK7 => ?_)
      refine c_reg ?_
      refine n_q hF hS (q_assign rfl) rfl (fun a hF => ?_)
      refine hK7 _ _ ?_
      refine c_ret ?_
      repeat (first | refine ret_then ?_ | refine ret_blk ?_)
      refine c_ret' (P := Tryd.prog) (fn := Tryd.f21) rfl hF hS (.tmp rfl .nil) ⟨_, rfl, ?_⟩
      exact ⟨by show Value.bool _ = _; rw [sameSt_no (by omega)], hS.same⟩
    · refine n_yes hF rfl ?_
      refine n_q hF hS (q_fieldAddr fl26_2 (by decide) rfl) rfl (fun a hF => ?_)
      refine n_yes hF rfl ?_
      refine n_q hF hS (q_loadG (o := 0 + 2) (v := .slice s.la s.logs.length s.lc) ty24 rfl hbx.h (Nat.le_of_ble_eq_true rfl) rfl rfl) rfl (fun a hF => ?_)
      refine n_yes hF rfl ?_
      refine n_q hF hS (q_len Tryd.underlying24 rfl rfl) rfl (fun a hF => ?_)
      refine n_yes hF rfl ?_
      refine n_q hF hS (q_fieldAddr fl26_2 (by decide) rfl) rfl (fun a hF => ?_)
      refine n_yes hF rfl ?_
      refine n_q hF hS (q_loadG (o := 0 + 2) (v := .slice t.la t.logs.length t.lc) ty24 rfl hby.h (Nat.le_of_ble_eq_true rfl) rfl rfl) rfl (fun a hF => ?_)
      refine n_yes hF rfl ?_
      refine n_q hF hS (q_len Tryd.underlying24 rfl rfl) rfl (fun a hF => ?_)
      refine n_yes hF rfl ?_
      refine n_q hF hS (q_neI rfl rfl) rfl (fun a hF => ?_)
      refine n_q hF hS (q_pick (b := false) rfl rfl) rfl (fun a hF => ?_)
      refine hK5 _ _ ?_
      refine spn hF (s := 26) rfl (fun hc26 hF => ?_) (fun hc26 hF => ?_)
      · refine c_true hF rfl ?_
        refine c_seq (fun K8 hK8 => ?_)
        refine c_reg ?_
        refine n_q hF hS (q_assign rfl) rfl (fun a hF => ?_)
        refine hK8 _ _ ?_
        refine c_ret ?_
        repeat (first | refine ret_then ?_ | refine ret_blk ?_)
        refine c_ret' (P := Tryd.prog) (fn := Tryd.f21) rfl hF hS (.tmp rfl .nil) ⟨_, rfl, ?_⟩
        exact ⟨by show Value.bool _ = _; rw [sameSt_no (by omega)], hS.same⟩
      · refine c_false hF rfl ?_
        refine wp_skip ?_
        refine hK4 _ _ ?_
        refine c_seq (fun K9 hK9 => ?_)
        refine c_seq (fun K10 hK10 => ?_)
        refine c_reg ?_
        refine n_q hF hS (q_assign rfl) rfl (fun a hF => ?_)
        refine hK10 _ _ ?_
        refine c_block ?_
        refine c_loopL hF [4, 5, 27, 28, 29, 30, 31, 32, 33, 34, 35, 36, 37, 38, 39, 40, 41, 42, 43, 44, 45, 46, 47, 48, 49, 50, 51, 52, 53, 54, 55, 56, 57, 58, 59, 60, 61, 62]
          (fun k : Nat => [(5, .int .i64 (k : Int))])
          (fun _ => [])
          (fun k _ => k ≤ s.logs.length ∧ ∀ (j : Nat) (h : j < k) (h1 : j < s.logs.length) (h2 : j < t.logs.length), s.logs[j].key = t.logs[j].key)
          (fun k => s.logs.length - k) (0) ⟨rfl, trivial⟩ (hS) (⟨Nat.zero_le _, fun j h => absurd h (Nat.not_lt_zero _)⟩) ?_
        clear hF hS
        intro k a w H hle hF hS hJ
        replace ho := ho.mono hle
        replace ho2 := ho2.mono hle
        replace hbx := hbx.mono hle
        replace hby := hby.mono hle
        have hl0 := Le.refl H
        obtain ⟨hk, hJ2⟩ := hJ
        try dsimp only at hF hS hk
        refine c_seq (fun K11 hK11 => ?_)
        refine c_seq (fun K12 hK12 => ?_)
        refine c_reg ?_
        refine n_q hF hS (q_move rfl) rfl (fun a hF => ?_)
        refine n_q hF hS (q_fieldAddr fl26_2 (by decide) rfl) rfl (fun a hF => ?_)
        refine n_q hF hS (q_loadG (o := 0 + 2) (v := .slice s.la s.logs.length s.lc) ty24 rfl hbx.h (Nat.le_of_ble_eq_true rfl) rfl rfl) rfl (fun a hF => ?_)
        refine n_q hF hS (q_len Tryd.underlying24 rfl rfl) rfl (fun a hF => ?_)
        refine n_q hF hS (q_lss rfl rfl) rfl (fun a hF => ?_)
        refine hK12 _ _ ?_
        refine spd hF (s := 31) rfl (fun hc31 hF => ?_) (fun hc31 hF => ?_)
        · refine c_true hF rfl ?_
          refine wp_skip ?_
          refine hK11 _ _ ?_
          refine c_seq (fun K13 hK13 => ?_)
          refine c_block ?_
          refine c_seq (fun K14 hK14 => ?_)
          have hlt : k < s.logs.length := by omega
          have hlt2 : k < t.logs.length := by omega
          obtain ⟨l, hed⟩ : ∃ q, q = s.logs[k] := ⟨_, rfl⟩
          obtain ⟨m, hgd⟩ : ∃ q, q = t.logs[k] := ⟨_, rfl⟩
          have hel : (lgE s.logs)[k]? = some l.c := by simp [lgE, hlt, hed]
          have hgl : (lgE t.logs)[k]? = some m.c := by simp [lgE, hlt2, hgd]
          have hre := ho.lg l (by rw [hed]; exact List.getElem_mem hlt)
          have hrg := ho2.lg m (by rw [hgd]; exact List.getElem_mem hlt2)
          refine r_start (fun L => L) [] mo hS (fun w hS => ?_)
          refine r_q (i := 0) rfl (by kernel_rfl) (by kernel_rfl) rfl (by kernel_rfl) (fun _ _ _ _ h => h) hF hS (q_fieldAddr fl26_2 (by decide) rfl) rfl (fun a hF => ?_)
          refine r_q (i := 1) rfl (by kernel_rfl) (by kernel_rfl) rfl (by kernel_rfl) (fun _ _ _ _ h => h) hF hS (q_loadG (o := 0 + 2) (v := .slice s.la s.logs.length s.lc) ty24 rfl hbx.h (Nat.le_of_ble_eq_true rfl) rfl rfl) rfl (fun a hF => ?_)
          refine r_q (i := 2) rfl (by kernel_rfl) (by kernel_rfl) rfl (by kernel_rfl) (fun _ _ _ _ h => h) hF hS (q_move rfl) rfl (fun a hF => ?_)
          refine r_q (i := 3) rfl (by kernel_rfl) (by kernel_rfl) rfl (by kernel_rfl) (fun _ _ _ _ h => h) hF hS (q_indexAddrS Tryd.underlying24 ty100 rfl rfl (by omega) (ho.rd.some (by simp [lgE]; omega))) rfl (fun a hF => ?_)
          refine r_q (i := 4) rfl (by kernel_rfl) (by kernel_rfl) rfl (by kernel_rfl) (fun _ _ _ _ h => h) hF hS (q_fieldAddrE fl100_0 (by decide) rfl) rfl (fun a hF => ?_)
          refine r_q (i := 5) rfl (by kernel_rfl) (by kernel_rfl) rfl (by kernel_rfl) (fun _ _ _ _ h => h) hF hS (q_loadL (off := 0) (i := k) (v := .int .i64 l.fo) ty3 rfl ho.rd hel (by decide) rfl rfl) rfl (fun a hF => ?_)
          refine r_q (i := 6) rfl (by kernel_rfl) (by kernel_rfl) rfl (by kernel_rfl) (fun _ _ _ _ h => h) hF hS (q_fieldAddr fl26_2 (by decide) rfl) rfl (fun a hF => ?_)
          refine r_q (i := 7) rfl (by kernel_rfl) (by kernel_rfl) rfl (by kernel_rfl) (fun _ _ _ _ h => h) hF hS (q_loadG (o := 0 + 2) (v := .slice t.la t.logs.length t.lc) ty24 rfl hby.h (Nat.le_of_ble_eq_true rfl) rfl rfl) rfl (fun a hF => ?_)
          refine r_q (i := 8) rfl (by kernel_rfl) (by kernel_rfl) rfl (by kernel_rfl) (fun _ _ _ _ h => h) hF hS (q_move rfl) rfl (fun a hF => ?_)
          refine r_q (i := 9) rfl (by kernel_rfl) (by kernel_rfl) rfl (by kernel_rfl) (fun _ _ _ _ h => h) hF hS (q_indexAddrS Tryd.underlying24 ty100 rfl rfl (by omega) (ho2.rd.some (by simp [lgE]; omega))) rfl (fun a hF => ?_)
          refine r_q (i := 10) rfl (by kernel_rfl) (by kernel_rfl) rfl (by kernel_rfl) (fun _ _ _ _ h => h) hF hS (q_fieldAddrE fl100_0 (by decide) rfl) rfl (fun a hF => ?_)
          refine r_q (i := 11) rfl (by kernel_rfl) (by kernel_rfl) rfl (by kernel_rfl) (fun _ _ _ _ h => h) hF hS (q_loadL (off := 0) (i := k) (v := .int .i64 m.fo) ty3 rfl ho2.rd hgl (by decide) rfl rfl) rfl (fun a hF => ?_)
          refine r_q (i := 12) rfl (by kernel_rfl) (by kernel_rfl) rfl (by kernel_rfl) (fun _ _ _ _ h => h) hF hS (q_neI rfl rfl) rfl (fun a hF => ?_)
          refine r_q (i := 13) rfl (by kernel_rfl) (by kernel_rfl) rfl (by kernel_rfl) (fun _ _ _ _ h => h) hF hS (q_move rfl) rfl (fun a hF => ?_)
          refine spn hF (s := 47) rfl (fun hc46 hF => ?_) (fun hc46 hF => ?_)
          · refine r_no (b := true) (i := 14) rfl (by kernel_rfl) (by kernel_rfl) rfl (by kernel_rfl) (fun _ _ _ _ h => h) hF hS rfl rfl rfl (fun a hF => ?_)
            refine r_no (b := true) (i := 15) rfl (by kernel_rfl) (by kernel_rfl) rfl (by kernel_rfl) (fun _ _ _ _ h => h) hF hS rfl rfl rfl (fun a hF => ?_)
            refine r_no (b := true) (i := 16) rfl (by kernel_rfl) (by kernel_rfl) rfl (by kernel_rfl) (fun _ _ _ _ h => h) hF hS rfl rfl rfl (fun a hF => ?_)
            refine r_no (b := true) (i := 17) rfl (by kernel_rfl) (by kernel_rfl) rfl (by kernel_rfl) (fun _ _ _ _ h => h) hF hS rfl rfl rfl (fun a hF => ?_)
            refine r_no (b := true) (i := 18) rfl (by kernel_rfl) (by kernel_rfl) rfl (by kernel_rfl) (fun _ _ _ _ h => h) hF hS rfl rfl rfl (fun a hF => ?_)
            refine r_no (b := true) (i := 19) rfl (by kernel_rfl) (by kernel_rfl) rfl (by kernel_rfl) (fun _ _ _ _ h => h) hF hS rfl rfl rfl (fun a hF => ?_)
            refine r_no (b := true) (i := 20) rfl (by kernel_rfl) (by kernel_rfl) rfl (by kernel_rfl) (fun _ _ _ _ h => h) hF hS rfl rfl rfl (fun a hF => ?_)
            refine r_no (b := true) (i := 21) rfl (by kernel_rfl) (by kernel_rfl) rfl (by kernel_rfl) (fun _ _ _ _ h => h) hF hS rfl rfl rfl (fun a hF => ?_)
            refine r_no (b := true) (i := 22) rfl (by kernel_rfl) (by kernel_rfl) rfl (by kernel_rfl) (fun _ _ _ _ h => h) hF hS rfl rfl rfl (fun a hF => ?_)
            refine r_no (b := true) (i := 23) rfl (by kernel_rfl) (by kernel_rfl) rfl (by kernel_rfl) (fun _ _ _ _ h => h) hF hS rfl rfl rfl (fun a hF => ?_)
            refine r_no (b := true) (i := 24) rfl (by kernel_rfl) (by kernel_rfl) rfl (by kernel_rfl) (fun _ _ _ _ h => h) hF hS rfl rfl rfl (fun a hF => ?_)
            refine r_no (b := true) (i := 25) rfl (by kernel_rfl) (by kernel_rfl) rfl (by kernel_rfl) (fun _ _ _ _ h => h) hF hS rfl rfl rfl (fun a hF => ?_)
            refine r_no (b := true) (i := 26) rfl (by kernel_rfl) (by kernel_rfl) rfl (by kernel_rfl) (fun _ _ _ _ h => h) hF hS rfl rfl rfl (fun a hF => ?_)
            refine r_no (b := true) (i := 27) rfl (by kernel_rfl) (by kernel_rfl) rfl (by kernel_rfl) (fun _ _ _ _ h => h) hF hS rfl rfl rfl (fun a hF => ?_)
            refine r_q (i := 28) rfl (by kernel_rfl) (by kernel_rfl) rfl (by kernel_rfl) (fun _ _ _ _ h => h) hF hS (q_pick (b := true) rfl rfl) rfl (fun a hF => ?_)
            refine r_done (by kernel_rfl) ?_
            refine hK14 _ _ ?_
            refine c_true hF rfl ?_
            refine c_seq (fun K15 hK15 => ?_)
            refine c_reg ?_
            refine n_q hF hS (q_assign rfl) rfl (fun a hF => ?_)
            refine hK15 _ _ ?_
            refine c_ret ?_
            repeat (first | refine ret_then ?_ | refine ret_blk ?_)
            refine c_ret' (P := Tryd.prog) (fn := Tryd.f21) rfl hF hS (.tmp rfl .nil) ⟨_, rfl, ?_⟩
            exact ⟨by show Value.bool _ = _; rw [sameSt_bad hlt hlt2 (by rw [← hed, ← hgd]; first | exact lkey_ne1 (by omega) | exact lkey_ne2 hc62)], hS.same⟩
          · refine r_qg (i := 14) rfl (by kernel_rfl) (by kernel_rfl) rfl (by kernel_rfl) (fun _ _ _ _ h => h) hF hS rfl (q_fieldAddr fl26_2 (by decide) rfl) rfl (fun a hF => ?_)
            refine r_qg (i := 15) rfl (by kernel_rfl) (by kernel_rfl) rfl (by kernel_rfl) (fun _ _ _ _ h => h) hF hS rfl (q_loadG (o := 0 + 2) (v := .slice s.la s.logs.length s.lc) ty24 rfl hbx.h (Nat.le_of_ble_eq_true rfl) rfl rfl) rfl (fun a hF => ?_)
            refine r_qg (i := 16) rfl (by kernel_rfl) (by kernel_rfl) rfl (by kernel_rfl) (fun _ _ _ _ h => h) hF hS rfl (q_move rfl) rfl (fun a hF => ?_)
            refine r_qg (i := 17) rfl (by kernel_rfl) (by kernel_rfl) rfl (by kernel_rfl) (fun _ _ _ _ h => h) hF hS rfl (q_indexAddrS Tryd.underlying24 ty100 rfl rfl (by omega) (ho.rd.some (by simp [lgE]; omega))) rfl (fun a hF => ?_)
            refine r_qg (i := 18) rfl (by kernel_rfl) (by kernel_rfl) rfl (by kernel_rfl) (fun _ _ _ _ h => h) hF hS rfl (q_fieldAddrE fl100_1 (by decide) rfl) rfl (fun a hF => ?_)
            refine r_qg (i := 19) rfl (by kernel_rfl) (by kernel_rfl) rfl (by kernel_rfl) (fun _ _ _ _ h => h) hF hS rfl (q_loadL (off := 1) (i := k) (v := .slice l.ea l.es.length l.ec) ty31 rfl ho.rd hel (by decide) rfl rfl) rfl (fun a hF => ?_)
            refine r_qg (i := 20) rfl (by kernel_rfl) (by kernel_rfl) rfl (by kernel_rfl) (fun _ _ _ _ h => h) hF hS rfl (q_fieldAddr fl26_2 (by decide) rfl) rfl (fun a hF => ?_)
            refine r_qg (i := 21) rfl (by kernel_rfl) (by kernel_rfl) rfl (by kernel_rfl) (fun _ _ _ _ h => h) hF hS rfl (q_loadG (o := 0 + 2) (v := .slice t.la t.logs.length t.lc) ty24 rfl hby.h (Nat.le_of_ble_eq_true rfl) rfl rfl) rfl (fun a hF => ?_)
            refine r_qg (i := 22) rfl (by kernel_rfl) (by kernel_rfl) rfl (by kernel_rfl) (fun _ _ _ _ h => h) hF hS rfl (q_move rfl) rfl (fun a hF => ?_)
            refine r_qg (i := 23) rfl (by kernel_rfl) (by kernel_rfl) rfl (by kernel_rfl) (fun _ _ _ _ h => h) hF hS rfl (q_indexAddrS Tryd.underlying24 ty100 rfl rfl (by omega) (ho2.rd.some (by simp [lgE]; omega))) rfl (fun a hF => ?_)
            refine r_qg (i := 24) rfl (by kernel_rfl) (by kernel_rfl) rfl (by kernel_rfl) (fun _ _ _ _ h => h) hF hS rfl (q_fieldAddrE fl100_1 (by decide) rfl) rfl (fun a hF => ?_)
            refine r_qg (i := 25) rfl (by kernel_rfl) (by kernel_rfl) rfl (by kernel_rfl) (fun _ _ _ _ h => h) hF hS rfl (q_loadL (off := 1) (i := k) (v := .slice m.ea m.es.length m.ec) ty31 rfl ho2.rd hgl (by decide) rfl rfl) rfl (fun a hF => ?_)
            refine r_one (i := 26) (by kernel_rfl) ?_
            have hsub := hS.sub
            refine r_lig rfl rfl hF rfl (fun K16 hK16 => l_call en24 hF rfl rfl (SameEntries_c l.es m.es _ _ _ _ hre.len _ _ hS.fz hre.rd hrg.rd hre.en hrg.en) (fun v16 w hR a hF => ?_))
            obtain ⟨rfl, hc⟩ := hR
            replace hS := hS.call0 hc
            refine hK16 _ _ _ hS (fun _ h => h) ?_
            refine r_qg (i := 27) rfl (by kernel_rfl) (by kernel_rfl) rfl (by kernel_rfl) (fun _ _ _ _ h => h) hF hS rfl (q_not rfl) rfl (fun a hF => ?_)
            refine r_q (i := 28) rfl (by kernel_rfl) (by kernel_rfl) rfl (by kernel_rfl) (fun _ _ _ _ h => h) hF hS (q_pick (b := false) rfl rfl) rfl (fun a hF => ?_)
            refine r_done (by kernel_rfl) ?_
            refine hK14 _ _ ?_
            refine sp hF (s := 62) rfl (fun hc62 hF => ?_) (fun hc62 hF => ?_)
            · refine c_true hF rfl ?_
              refine c_seq (fun K17 hK17 => ?_)
              refine c_reg ?_
              refine n_q hF hS (q_assign rfl) rfl (fun a hF => ?_)
              refine hK17 _ _ ?_
              refine c_ret ?_
              repeat (first | refine ret_then ?_ | refine ret_blk ?_)
              refine c_ret' (P := Tryd.prog) (fn := Tryd.f21) rfl hF hS (.tmp rfl .nil) ⟨_, rfl, ?_⟩
              exact ⟨by show Value.bool _ = _; rw [sameSt_bad hlt hlt2 (by rw [← hed, ← hgd]; first | exact lkey_ne1 (by omega) | exact lkey_ne2 hc62)], hS.same⟩
            · refine c_false hF rfl ?_
              refine wp_skip ?_
              refine hK13 _ _ ?_
              refine c_reg ?_
              refine n_q hF hS (q_move rfl) rfl (fun a hF => ?_)
              refine n_q hF hS (q_addI rfl rfl (by omega)) rfl (fun a hF => ?_)
              refine n_q hF hS (q_assign rfl) rfl (fun a hF => ?_)
              have hke : l.key = m.key := lkey_eq (by omega) hc62
              exact ⟨k + 1, _, (by show s.logs.length - (k + 1) < s.logs.length - k; omega), hl0, hF.back ⟨rfl, trivial⟩ rfl (by repeat first | exact Ext.refl _ _ | refine Ext.rem' rfl ?_ | refine Ext.push rfl ?_), hS.lose (.refl _), ⟨by show k + 1 ≤ s.logs.length; omega, fun j h h1 h2 => by rcases Nat.lt_succ_iff_lt_or_eq.1 h with h | rfl; exact hJ2 j h h1 h2; rw [← hed, ← hgd]; exact hke⟩⟩
        · refine c_false hF rfl ?_
          refine c_exit ?_
          refine hK9 _ _ ?_
          refine c_seq (fun K18 hK18 => ?_)
          refine c_reg ?_
          refine n_q hF hS (q_assign rfl) rfl (fun a hF => ?_)
          refine hK18 _ _ ?_
          refine c_ret ?_
          repeat (first | refine ret_then ?_ | refine ret_blk ?_)
          refine c_ret' (P := Tryd.prog) (fn := Tryd.f21) rfl hF hS (.tmp rfl .nil) ⟨_, rfl, ?_⟩
          exact ⟨by show Value.bool _ = _; rw [sameSt_yes (by omega) (by omega) (by omega) (fun j h1 h2 => hJ2 j (by omega) h1 h2)], hS.same⟩
end Go.Proofs.YtneokajhmonpaaaDoor
/-! Plain: an element put in. -/
namespace Go.W
open Go Go.RowKit
theorem all1_drop {cs : List Value} (n : Nat) (h : all1 cs = true) : all1 (cs.drop n) = true := by
  unfold all1 at *
  rw [List.all_eq_true] at *
  exact fun x hx => h x (List.mem_of_mem_drop hx)
theorem OwS.row_len {T : TypeId} {sz b n c : Nat} {xs cs : List Value} (h : OwS T sz (.slice (some ⟨b, 0, none⟩) n c) n xs [⟨b, cs, T⟩]) : cs.length = c * sz ∧ c ≤ maxLen := by
  cases h with
  | row h1 h2 h3 h4 => exact ⟨h2, h4⟩
theorem src_mid {A T : List Value} {p j : Nat} {v : Value} (h : (A.drop p)[j]? = some v) : (A ++ T)[0 + p + j]? = some v := by
  rw [List.getElem?_drop] at h
  rw [Nat.zero_add, List.getElem?_append_left (by
    rcases Nat.lt_or_ge (p + j) A.length with h5 | h5
    · exact h5
    · rw [List.getElem?_eq_none h5] at h; cases h)]
  exact h
theorem spl_mid {X T v : List Value} {p : Nat} (hp : X.length = p) : spl (X ++ T) p v = X ++ v ++ T.drop v.length := by
  unfold spl
  subst hp
  rw [List.take_left, List.drop_append, List.drop_eq_nil_of_le (by omega), List.nil_append, Nat.add_sub_cancel_left]
theorem ins_grow {A v T : List Value} {p : Nat} (hp : p ≤ A.length) : spl (spl (A.take p ++ T) p v) (p + v.length) (A.drop p) = (A.take p ++ v ++ A.drop p) ++ (T.drop v.length).drop (A.drop p).length := by
  have hl : (A.take p).length = p := by rw [List.length_take]; omega
  rw [spl_mid hl, spl_mid (by rw [List.length_append, hl])]
theorem ins_place {A v T : List Value} {p : Nat} (hp : p ≤ A.length) (hT : v.length ≤ T.length) : spl (spl (A ++ T) (p + v.length) (A.drop p)) p v = (A.take p ++ v ++ A.drop p) ++ T.drop v.length := by
  have h1 : ((A ++ T).take (p + v.length)).length = p + v.length := by rw [List.length_take, List.length_append]; omega
  have h2 : (A ++ T).drop (p + v.length + (A.drop p).length) = T.drop v.length := by
    rw [List.length_drop, show p + v.length + (A.length - p) = A.length + v.length by omega, ← List.drop_drop, List.drop_left]
  have e1 : spl (A ++ T) (p + v.length) (A.drop p) = (A ++ T).take (p + v.length) ++ (A.drop p ++ T.drop v.length) := by
    unfold spl; rw [h2, List.append_assoc]
  rw [e1]
  unfold spl
  have e2 : ((A ++ T).take (p + v.length) ++ (A.drop p ++ T.drop v.length)).take p = A.take p := by
    rw [List.take_append_of_le_length (by omega), List.take_take, Nat.min_eq_left (by omega), List.take_append_of_le_length hp]
  have e3 : ((A ++ T).take (p + v.length) ++ (A.drop p ++ T.drop v.length)).drop (p + v.length) = A.drop p ++ T.drop v.length := by
    rw [List.drop_append, List.drop_eq_nil_of_le (by omega), h1, Nat.sub_self, List.drop_zero, List.nil_append]
  rw [e2, e3]
  simp
theorem lgE_insert (ls : List Lg) (l : Lg) {i : Nat} (hi : i ≤ ls.length) : (lgE (ls.insertIdx i l)).flatten = (lgE ls).flatten.take (i * 2) ++ l.c ++ (lgE ls).flatten.drop (i * 2) := by
  rw [flatten_take i (lgE_each ls), flatten_drop i (lgE_each ls)]
  have : lgE (ls.insertIdx i l) = (lgE ls).take i ++ l.c :: (lgE ls).drop i := by
    unfold lgE
    rw [← List.map_take, ← List.map_drop]
    have : ls.insertIdx i l = ls.take i ++ l :: ls.drop i := by
      induction ls generalizing i with
      | nil => have : i = 0 := by simpa using hi
               subst this; simp
      | cons a t ih =>
        cases i with
        | zero => simp
        | succ i => simp at hi; simp [List.insertIdx_succ_cons, ih hi]
    rw [this]
    simp
  rw [this]
  simp
end Go.W
namespace Go.Proofs.YtneokajhmonpaaaDoor
open Go Go.RowKit Go.W
set_option maxRecDepth 10000
namespace T31
theorem bt100 : byS Tryd.prog 100 = some 32 := by kernel_rfl
theorem ty100 : tyS Tryd.prog 100 = some (true, 2) := by kernel_rfl
theorem zr100 : zrS Tryd.prog 100 = some [.int .i64 0, .slice none 0 0] := by kernel_rfl
theorem mo : Tryd.prog.follows .mixedOrders = true := by kernel_rfl
end T31
open T31

theorem InsertL_c (ls : List Lg) (l : Lg) (i : Nat) (hi : i ≤ ls.length) (hn : ls.length ≤ 1000000) (ad : Option Addr) (cp : Nat) (Lx : List Blk) (hO : OwS 100 2 (.slice ad ls.length cp) ls.length (lgE ls).flatten Lx) (bv : Nat) (w : World) (H : Froz) (hh : Hand w H Lx) (hv : H bv = some (.cells l.c.toArray 100 (0, 0))) (hrv : RdS H (some ⟨bv, 0, none⟩) 1 2 l.c) :
    CallsR Tryd.prog 92 [.slice ad ls.length cp, .int .i64 (i : Int), .slice (some ⟨bv, 0, none⟩) 1 1] w fun v w' => ∃ ad' cp' Lx', v = .slice ad' (ls.length + 1) cp' ∧ OwS 100 2 (.slice ad' (ls.length + 1) cp') (ls.length + 1) (lgE (ls.insertIdx i l)).flatten Lx' ∧ St ⟨w, H, Lx.map (·.b)⟩ H Lx' w' := by
  refine calls_start Tryd.func92 rfl Tryd.ntmps92 rfl (fun a hF => ?_)
  have hS := (St.startG hh).nilR
  have hcap := hO.le
  refine c_seq (fun K1 hK1 => ?_)
  refine c_reg ?_
  refine n_q hF hS (q_assign rfl) rfl (fun a hF => ?_)
  refine hK1 _ _ ?_
  refine c_seq (fun K2 hK2 => ?_)
  refine c_reg ?_
  refine n_q hF hS (q_move rfl) rfl (fun a hF => ?_)
  refine n_q hF hS (q_move rfl) rfl (fun a hF => ?_)
  refine n_q hF hS (q_sliceF Tryd.underlying24 ty100 rfl rfl (by omega)) rfl (fun a hF => ?_)
  refine hK2 _ _ ?_
  refine c_seq (fun K3 hK3 => ?_)
  refine c_reg ?_
  refine n_q hF hS (q_move rfl) rfl (fun a hF => ?_)
  refine n_q hF hS (q_len Tryd.underlying24 rfl rfl) rfl (fun a hF => ?_)
  refine n_q hF hS (q_assign rfl) rfl (fun a hF => ?_)
  refine hK3 _ _ ?_
  refine c_seq (fun K4 hK4 => ?_)
  refine c_seq (fun K5 hK5 => ?_)
  refine c_reg ?_
  refine n_q hF hS (q_move rfl) rfl (fun a hF => ?_)
  refine n_q hF hS (q_eqI rfl rfl) rfl (fun a hF => ?_)
  refine hK5 _ _ ?_
  refine spF hF (s := 16) rfl (by decide) (fun hF => ?_)
  refine c_false hF rfl ?_
  refine wp_skip ?_
  refine hK4 _ _ ?_
  refine c_seq (fun K6 hK6 => ?_)
  refine c_reg ?_
  refine n_q hF hS (q_move rfl) rfl (fun a hF => ?_)
  refine n_q hF hS (q_len Tryd.underlying24 rfl rfl) rfl (fun a hF => ?_)
  refine n_q hF hS (q_assign rfl) rfl (fun a hF => ?_)
  refine hK6 _ _ ?_
  refine c_seq (fun K7 hK7 => ?_)
  refine c_seq (fun K8 hK8 => ?_)
  refine c_reg ?_
  refine n_q hF hS (q_move rfl) rfl (fun a hF => ?_)
  refine n_q hF hS (q_move rfl) rfl (fun a hF => ?_)
  refine n_q hF hS (q_eqI rfl rfl) rfl (fun a hF => ?_)
  refine hK8 _ _ ?_
  refine spd hF (s := 22) rfl (fun hc22 hF => ?_) (fun hc22 hF => ?_)
  · refine c_true hF rfl ?_
    refine c_seq (fun K9 hK9 => ?_)
    refine c_reg ?_
    refine n_q hF hS (q_move rfl) rfl (fun a hF => ?_)
    refine n_q hF hS (q_move rfl) rfl (fun a hF => ?_)
    refine n_l rfl (fun K10 hK10 => l_append (L := []) Tryd.underlying24 ty100 zr100 bt100 hF hS rfl rfl (hO) (.slice Tryd.underlying24 hrv rfl) (by omega) (by simp only [maxLen]; omega) rfl rfl (fun a w c7_2 ad7_2 Lx7_2 ho7_2 hF hS => hK10 _ _ ?_))
    refine n_q hF hS (q_assign rfl) rfl (fun a hF => ?_)
    refine hK9 _ _ ?_
    refine c_ret ?_
    repeat (first | refine ret_then ?_ | refine ret_blk ?_)
    refine c_ret' (P := Tryd.prog) (fn := Tryd.f92) rfl hF hS (.tmp rfl .nil) ⟨_, rfl, ?_⟩
    have hie : i = ls.length := by omega
    have hcells : (lgE (ls.insertIdx i l)).flatten = (lgE ls).flatten ++ l.c := by rw [lgE_insert ls l hi, hie, List.take_of_length_le (by rw [lgE_len]; exact Nat.le_refl _), List.drop_of_length_le (by rw [lgE_len]; exact Nat.le_refl _), List.append_nil]
    rw [List.append_nil] at hS
    exact ⟨ad7_2, c7_2, Lx7_2, rfl, by rw [hcells]; exact ho7_2, hS⟩
  · refine c_false hF rfl ?_
    refine wp_skip ?_
    refine hK7 _ _ ?_
    refine c_seq (fun K11 hK11 => ?_)
    refine c_seq (fun K12 hK12 => ?_)
    refine c_reg ?_
    have hlt : i < ls.length := by omega
    obtain ⟨fL, hf0, hfO, hpos⟩ := hO.famL
    obtain ⟨bb, tail, hab, hfb⟩ := hpos (by omega)
    subst hab
    have hcl := OwS.row_len (hfb ls ▸ hfO ls rfl)
    rw [← hf0, hfb] at hS
    refine n_q hF hS (q_move rfl) rfl (fun a hF => ?_)
    refine n_q hF hS (q_move rfl) rfl (fun a hF => ?_)
    refine n_q hF hS (q_addI rfl rfl (by omega)) rfl (fun a hF => ?_)
    refine n_q hF hS (q_move rfl) rfl (fun a hF => ?_)
    refine n_q hF hS (q_cap Tryd.underlying24 rfl rfl) rfl (fun a hF => ?_)
    refine n_q hF hS (q_gtr rfl rfl) rfl (fun a hF => ?_)
    refine hK12 _ _ ?_
    refine spd hF (s := 31) rfl (fun hc31 hF => ?_) (fun hc31 hF => ?_)
    · refine c_true hF rfl ?_
      refine c_seq (fun K13 hK13 => ?_)
      refine c_reg ?_
      refine n_q hF hS (q_move rfl) rfl (fun a hF => ?_)
      refine n_q hF hS (q_move rfl) rfl (fun a hF => ?_)
      refine n_q hF hS (q_sliceP Tryd.underlying24 ty100 rfl rfl (by omega)) rfl (fun a hF => ?_)
      refine n_q hF hS (q_move rfl) rfl (fun a hF => ?_)
      refine n_q hF hS (q_move rfl) rfl (fun a hF => ?_)
      refine n_q hF hS (q_addI rfl rfl (by omega)) rfl (fun a hF => ?_)
      refine n_q hF hS (q_move rfl) rfl (fun a hF => ?_)
      refine n_q hF hS (q_subI rfl rfl (by omega)) rfl (fun a hF => ?_)
      refine n_l rfl (fun K14 hK14 => l_appendZO (m := ls.length + 1 - i) (i := i) (j := 0) Tryd.underlying24 Tryd.underlying3 ty100 zr100 bt100 hF hS rfl rfl (by omega) rfl (by rw [List.length_append, lgE_len]; omega) (by omega) (by omega) (by omega) (by simp only [maxLen]; omega) rfl (by decide) rfl (fun a w b9 c9 t9 ht9 hm9 hc9 hF hS => hK14 _ _ ?_))
      refine n_q hF hS (q_assign rfl) rfl (fun a hF => ?_)
      refine hK13 _ _ ?_
      refine c_seq (fun K15 hK15 => ?_)
      refine c_reg ?_
      refine n_q hF hS (q_move rfl) rfl (fun a hF => ?_)
      refine n_q hF hS (q_move rfl) rfl (fun a hF => ?_)
      refine n_q hF hS (q_sliceF Tryd.underlying24 ty100 rfl rfl (by omega)) rfl (fun a hF => ?_)
      refine n_q hF hS (q_move rfl) rfl (fun a hF => ?_)
      refine rw_ hF (s := 43) (u := .slice (some ⟨b9, 0 + i * 2, none⟩) (ls.length + 1 - i) (c9 - i)) rfl (by rw [cutA_own _ _ _ _ _ (by omega), show i + (ls.length + 1 - i) - i = ls.length + 1 - i by omega]) (fun hF => ?_)
      obtain ⟨b5, o5, e5, h5⟩ := hrv.at_ (by decide)
      refine n_l rfl (fun K16 hK16 => l_copyG (k := 1) (news := l.c) Tryd.underlying24 ty100 hF hS rfl rfl (i := 0) rfl (by omega) (rfl) (by rw [ht9]; omega) (rfl) (fun _ => ⟨b5, o5, e5, fun j v hv5 => hS.hcell (h5 j v hv5)⟩) rfl (fun a w hF hS => hK16 _ _ ?_))
      refine hK15 _ _ ?_
      refine c_seq (fun K17 hK17 => ?_)
      refine r_start (fun L => L) [8] mo hS (fun w hS => ?_)
      refine r_q (i := 0) rfl (by kernel_rfl) (by kernel_rfl) rfl (by kernel_rfl) (fun _ _ _ _ h => h) hF hS (q_move rfl) rfl (fun a hF => ?_)
      refine r_q (i := 1) rfl (by kernel_rfl) (by kernel_rfl) rfl (by kernel_rfl) (fun _ _ _ _ h => h) hF hS (q_move rfl) rfl (fun a hF => ?_)
      refine r_q (i := 2) rfl (by kernel_rfl) (by kernel_rfl) rfl (by kernel_rfl) (fun _ _ _ _ h => h) hF hS (q_move rfl) rfl (fun a hF => ?_)
      refine r_q (i := 3) rfl (by kernel_rfl) (by kernel_rfl) rfl (by kernel_rfl) (fun _ _ _ _ h => h) hF hS (q_addI rfl rfl (by omega)) rfl (fun a hF => ?_)
      refine r_q (i := 4) rfl (by kernel_rfl) (by kernel_rfl) rfl (by kernel_rfl) (fun _ _ _ _ h => h) hF hS (q_sliceF Tryd.underlying24 ty100 rfl rfl (by omega)) rfl (fun a hF => ?_)
      refine r_q (i := 5) rfl (by kernel_rfl) (by kernel_rfl) rfl (by kernel_rfl) (fun _ _ _ _ h => h) hF hS (q_move rfl) rfl (fun a hF => ?_)
      refine r_q (i := 6) rfl (by kernel_rfl) (by kernel_rfl) rfl (by kernel_rfl) (fun _ _ _ _ h => h) hF hS (q_move rfl) rfl (fun a hF => ?_)
      refine r_q (i := 7) rfl (by kernel_rfl) (by kernel_rfl) rfl (by kernel_rfl) (fun _ _ _ _ h => h) hF hS (q_sliceF Tryd.underlying24 ty100 rfl rfl (by omega)) rfl (fun a hF => ?_)
      refine r_one (i := 8) (by kernel_rfl) ?_
      refine rw_ hF (s := 50) (u := .slice (some ⟨b9, 0 + (i + 1) * 2, none⟩) (ls.length - i) (c9 - (i + 1))) rfl (by rw [cutA_own _ _ _ _ _ (by omega), show i + (ls.length + 1 - i) - (i + 1) = ls.length - i by omega]) (fun hF => ?_)
      refine rw_ hF (s := 53) (u := .slice (some ⟨bb, 0 + i * 2, none⟩) (ls.length - i) (cp - i)) rfl (by rw [cutA_own _ _ _ _ _ (by omega)]) (fun hF => ?_)
      refine r_lL rfl rfl rfl (fun K18 hK18 => l_copyG (k := ls.length - i) (news := (lgE ls).flatten.drop (i * 2)) Tryd.underlying24 ty100 hF hS rfl rfl (i := 0) rfl (by omega) (by rw [List.length_drop, lgE_len]; omega) (by rw [spl_length (by rw [ht9]; show 0 + i * 2 + 2 ≤ _; omega), ht9]; omega) (all1_drop _ (lgE_all1 _)) (fun _ => ⟨bb, 0 + i * 2, rfl, fun j v hv5 => cell_of_own hS (i := 1) rfl (src_mid hv5)⟩) rfl (fun a w hF hS => hK18 _ _ ?_))
      refine r_done (by kernel_rfl) ?_
      refine hK17 _ _ ?_
      refine c_seq (fun K19 hK19 => ?_)
      refine c_reg ?_
      refine n_q hF hS (q_move rfl) rfl (fun a hF => ?_)
      refine n_q hF hS (q_assign rfl) rfl (fun a hF => ?_)
      refine hK19 _ _ ?_
      refine c_ret ?_
      repeat (first | refine ret_then ?_ | refine ret_blk ?_)
      refine c_ret' (P := Tryd.prog) (fn := Tryd.f92) rfl hF hS (.tmp rfl .nil) ⟨_, rfl, ?_⟩
      have hcells := lgE_insert ls l hi
      have hpl : i * 2 ≤ (lgE ls).flatten.length := by rw [lgE_len]; omega
      have hle : (lgE (ls.insertIdx i l)).flatten.length = (ls.length + 1) * 2 := by rw [lgE_len, List.length_insertIdx_of_le_length hi]
      try dsimp only [List.set] at hS
      rw [List.take_append_of_le_length hpl] at hS ht9
      have hig := ins_grow (T := t9) (v := l.c) hpl
      rw [show i * 2 + l.c.length = 0 + (i + 1) * 2 by rw [Lg.c_len]; omega, ← hcells] at hig
      rw [show 0 + i * 2 = i * 2 by omega, hig] at hS
      have hSf := hS.lose (.cons_cons _ (List.nil_sublist _))
      rw [← hfb ls, hf0] at hSf
      refine ⟨some ⟨b9, 0, none⟩, c9, [⟨b9, _, 100⟩], ?_, .row hle ?_ (by omega) hc9, hSf⟩
      · show Value.slice _ _ _ = _
        rw [show i + (ls.length + 1 - i) = ls.length + 1 by omega]
      · rw [← hig, spl_length (by rw [spl_length (by rw [ht9]; show _ + 2 ≤ _; omega), ht9, List.length_drop, lgE_len]; omega), spl_length (by rw [ht9]; show _ + 2 ≤ _; omega), ht9]
    · refine c_false hF rfl ?_
      refine wp_skip ?_
      refine hK11 _ _ ?_
      refine c_seq (fun K20 hK20 => ?_)
      refine c_reg ?_
      refine n_q hF hS (q_move rfl) rfl (fun a hF => ?_)
      refine n_q hF hS (q_move rfl) rfl (fun a hF => ?_)
      refine n_q hF hS (q_move rfl) rfl (fun a hF => ?_)
      refine n_q hF hS (q_addI rfl rfl (by omega)) rfl (fun a hF => ?_)
      refine n_q hF hS (q_sliceP Tryd.underlying24 ty100 rfl rfl (by omega)) rfl (fun a hF => ?_)
      refine n_q hF hS (q_assign rfl) rfl (fun a hF => ?_)
      refine hK20 _ _ ?_
      refine c_seq (fun K21 hK21 => ?_)
      refine c_seq (fun K22 hK22 => ?_)
      refine c_reg ?_
      refine n_q hF hS (q_move rfl) rfl (fun a hF => ?_)
      refine n_q hF hS (q_move rfl) rfl (fun a hF => ?_)
      refine n_q hF hS (q_move rfl) rfl (fun a hF => ?_)
      refine n_q hF hS (q_move rfl) rfl (fun a hF => ?_)
      refine n_q hF hS (q_addI rfl rfl (by omega)) rfl (fun a hF => ?_)
      refine n_q hF hS (q_sliceF Tryd.underlying24 ty100 rfl rfl (by omega)) rfl (fun a hF => ?_)
      refine rw_ hF (s := 66) (u := .slice (some ⟨bb, 0 + (i + 1) * 2, none⟩) (ls.length - i) (cp - (i + 1))) rfl (by rw [cutA_own _ _ _ _ _ (by omega), show ls.length + 1 - (i + 1) = ls.length - i by omega]) (fun hF => ?_)
      refine n_q hF hS (q_overlapsH (tS := 24) (tR := 4) (j := 0) Tryd.func114 rfl rfl (by kernel_rfl) rfl Tryd.underlying24 ty100 rfl rfl hv rfl (by rw [List.length_append, lgE_len]; omega)) rfl (fun a hF => ?_)
      refine n_q hF hS (q_not rfl) rfl (fun a hF => ?_)
      refine hK22 _ _ ?_
      refine rw_ hF (s := 68) (u := .bool true) rfl (by rfl) (fun hF => ?_)
      refine c_true hF rfl ?_
      refine c_seq (fun K23 hK23 => ?_)
      refine r_start (fun L => L) [8] mo hS (fun w hS => ?_)
      refine r_q (i := 0) rfl (by kernel_rfl) (by kernel_rfl) rfl (by kernel_rfl) (fun _ _ _ _ h => h) hF hS (q_move rfl) rfl (fun a hF => ?_)
      refine r_q (i := 1) rfl (by kernel_rfl) (by kernel_rfl) rfl (by kernel_rfl) (fun _ _ _ _ h => h) hF hS (q_move rfl) rfl (fun a hF => ?_)
      refine r_q (i := 2) rfl (by kernel_rfl) (by kernel_rfl) rfl (by kernel_rfl) (fun _ _ _ _ h => h) hF hS (q_move rfl) rfl (fun a hF => ?_)
      refine r_q (i := 3) rfl (by kernel_rfl) (by kernel_rfl) rfl (by kernel_rfl) (fun _ _ _ _ h => h) hF hS (q_addI rfl rfl (by omega)) rfl (fun a hF => ?_)
      refine r_q (i := 4) rfl (by kernel_rfl) (by kernel_rfl) rfl (by kernel_rfl) (fun _ _ _ _ h => h) hF hS (q_sliceF Tryd.underlying24 ty100 rfl rfl (by omega)) rfl (fun a hF => ?_)
      refine r_q (i := 5) rfl (by kernel_rfl) (by kernel_rfl) rfl (by kernel_rfl) (fun _ _ _ _ h => h) hF hS (q_move rfl) rfl (fun a hF => ?_)
      refine r_q (i := 6) rfl (by kernel_rfl) (by kernel_rfl) rfl (by kernel_rfl) (fun _ _ _ _ h => h) hF hS (q_move rfl) rfl (fun a hF => ?_)
      refine r_q (i := 7) rfl (by kernel_rfl) (by kernel_rfl) rfl (by kernel_rfl) (fun _ _ _ _ h => h) hF hS (q_sliceF Tryd.underlying24 ty100 rfl rfl (by omega)) rfl (fun a hF => ?_)
      refine r_one (i := 8) (by kernel_rfl) ?_
      refine rw_ hF (s := 73) (u := .slice (some ⟨bb, 0 + (i + 1) * 2, none⟩) (ls.length - i) (cp - (i + 1))) rfl (by rw [cutA_own _ _ _ _ _ (by omega), show ls.length + 1 - (i + 1) = ls.length - i by omega]) (fun hF => ?_)
      refine rw_ hF (s := 76) (u := .slice (some ⟨bb, 0 + i * 2, none⟩) (ls.length + 1 - i) (cp - i)) rfl (by rw [cutA_own _ _ _ _ _ (by omega)]) (fun hF => ?_)
      refine r_lL rfl rfl rfl (fun K24 hK24 => l_copyG (k := ls.length - i) (news := (lgE ls).flatten.drop (i * 2)) Tryd.underlying24 ty100 hF hS rfl rfl (i := 0) rfl (by omega) (by rw [List.length_drop, lgE_len]; omega) (by rw [hcl.1]; omega) (all1_drop _ (lgE_all1 _)) (fun _ => ⟨bb, 0 + i * 2, rfl, fun j v hv5 => cell_of_own hS (i := 0) rfl (src_mid hv5)⟩) rfl (fun a w hF hS => hK24 _ _ ?_))
      refine r_done (by kernel_rfl) ?_
      refine hK23 _ _ ?_
      refine c_seq (fun K25 hK25 => ?_)
      refine c_reg ?_
      refine n_q hF hS (q_move rfl) rfl (fun a hF => ?_)
      refine n_q hF hS (q_move rfl) rfl (fun a hF => ?_)
      refine n_q hF hS (q_sliceF Tryd.underlying24 ty100 rfl rfl (by omega)) rfl (fun a hF => ?_)
      refine n_q hF hS (q_move rfl) rfl (fun a hF => ?_)
      refine rw_ hF (s := 80) (u := .slice (some ⟨bb, 0 + i * 2, none⟩) (ls.length + 1 - i) (cp - i)) rfl (by rw [cutA_own _ _ _ _ _ (by omega)]) (fun hF => ?_)
      obtain ⟨b5, o5, e5, h5⟩ := hrv.at_ (by decide)
      refine n_l rfl (fun K26 hK26 => l_copyG (k := 1) (news := l.c) Tryd.underlying24 ty100 hF hS rfl rfl (i := 0) rfl (by omega) (rfl) (by rw [spl_length (by rw [hcl.1, List.length_drop, lgE_len]; omega), hcl.1]; omega) (rfl) (fun _ => ⟨b5, o5, e5, fun j v hv5 => hS.hcell (h5 j v hv5)⟩) rfl (fun a w hF hS => hK26 _ _ ?_))
      refine hK25 _ _ ?_
      refine c_seq (fun K27 hK27 => ?_)
      refine c_reg ?_
      refine n_q hF hS (q_move rfl) rfl (fun a hF => ?_)
      refine n_q hF hS (q_assign rfl) rfl (fun a hF => ?_)
      refine hK27 _ _ ?_
      refine c_ret ?_
      repeat (first | refine ret_then ?_ | refine ret_blk ?_)
      refine c_ret' (P := Tryd.prog) (fn := Tryd.f92) rfl hF hS (.tmp rfl .nil) ⟨_, rfl, ?_⟩
      have hcells := lgE_insert ls l hi
      have hpl : i * 2 ≤ (lgE ls).flatten.length := by rw [lgE_len]; omega
      have hle : (lgE (ls.insertIdx i l)).flatten.length = (ls.length + 1) * 2 := by rw [lgE_len, List.length_insertIdx_of_le_length hi]
      try dsimp only [List.set] at hS
      have htl : l.c.length ≤ tail.length := by have h9 := hcl.1; rw [List.length_append, lgE_len] at h9; show 2 ≤ _; omega
      have hig := ins_place hpl htl
      rw [show i * 2 + l.c.length = 0 + (i + 1) * 2 by rw [Lg.c_len]; omega, ← hcells] at hig
      rw [show 0 + i * 2 = i * 2 by omega, hig] at hS
      refine ⟨some ⟨bb, 0, none⟩, cp, [⟨bb, (lgE (ls.insertIdx i l)).flatten ++ tail.drop l.c.length, 100⟩], rfl, .row hle ?_ (by omega) hcl.2, by rw [← hf0, hfb]; exact hS⟩
      · rw [← hig, spl_length (by rw [spl_length (by rw [hcl.1, List.length_drop, lgE_len]; omega), hcl.1]; show _ + 2 ≤ _; omega), spl_length (by rw [hcl.1, List.length_drop, lgE_len]; omega), hcl.1]
end Go.Proofs.YtneokajhmonpaaaDoor
namespace Go.Proofs.YtneokajhmonpaaaDoor
open Go Go.RowKit Go.W
set_option maxRecDepth 10000
namespace T32
theorem en59 : enS Tryd.prog 59 = true := by kernel_rfl
theorem en83 : enS Tryd.prog 83 = true := by kernel_rfl
theorem en91 : enS Tryd.prog 91 = true := by kernel_rfl
theorem en92 : enS Tryd.prog 92 = true := by kernel_rfl
theorem fl26_2 : flS Tryd.prog 26 2 = some (2, 1) := by kernel_rfl
theorem fl100_1 : flS Tryd.prog 100 1 = some (1, 1) := by kernel_rfl
theorem fl145_0 : flS Tryd.prog 145 0 = some (0, 3) := by kernel_rfl
theorem pl100 : plS Tryd.prog 100 = some [(0, 1), (1, 1)] := by kernel_rfl
theorem ty24 : tyS Tryd.prog 24 = some (false, 1) := by kernel_rfl
theorem ty26 : tyS Tryd.prog 26 = some (true, 3) := by kernel_rfl
theorem ty31 : tyS Tryd.prog 31 = some (false, 1) := by kernel_rfl
theorem ty100 : tyS Tryd.prog 100 = some (true, 2) := by kernel_rfl
theorem zr26 : zrS Tryd.prog 26 = some [.int .i64 0, .int .i64 0, .slice none 0 0] := by kernel_rfl
theorem zr100 : zrS Tryd.prog 100 = some [.int .i64 0, .slice none 0 0] := by kernel_rfl
theorem mo : Tryd.prog.follows .mixedOrders = true := by kernel_rfl
end T32
open T32

theorem replace_c (s : Sto) (b : Nat) (f : Int) (es : List En) (al : Option Addr) (cl : Nat) (hs : Srt s.logs) (hn1 : s.logs.length < 1000000) (w : World) (H : Froz) (hz : Fz H w) (hb : HR H b s.c) (ho : StOK H s) (hl : LgOK H ⟨f, al, cl, es⟩) :
    CallsR Tryd.prog 61 [.pointer (some ⟨b, 0, none⟩), .int .i64 f, .slice al es.length cl] w fun v w' => ∃ s' H', v = .agg s'.c.toArray ∧ Le H H' ∧ StOK H' s' ∧ s'.id = s.id ∧ s'.priv = s.priv ∧ s'.logs.map Lg.key = repK (s.logs.map Lg.key) f (es.map En.key) ∧ St ⟨w, H, []⟩ H' [] w' := by
  refine calls_start Tryd.func61 rfl Tryd.ntmps61 rfl (fun a hF => ?_)
  have hS := St.start w H hz
  refine c_seq (fun K1 hK1 => ?_)
  refine c_reg ?_
  refine n_l rfl (fun K2 hK2 => l_alloc hF hS zr26 rfl (fun a w b1 hF hS => hK2 _ _ ?_))
  refine hK1 _ _ ?_
  refine c_seq (fun K3 hK3 => ?_)
  refine c_reg ?_
  refine n_q hF hS (q_move rfl) rfl (fun a hF => ?_)
  refine n_q hF hS (q_nilCheck rfl) rfl (fun a hF => ?_)
  refine n_q hF hS (q_fieldAddr fl145_0 (by decide) rfl) rfl (fun a hF => ?_)
  refine n_q hF hS (q_loadG (o := 0 + 0) (v := .agg s.c.toArray) ty26 rfl hb.h (Nat.le_of_ble_eq_true rfl) rfl rfl) rfl (fun a hF => ?_)
  refine n_l rfl (fun K4 hK4 => l_alloc hF hS zr26 rfl (fun a w b2 hF hS => hK4 _ _ ?_))
  refine n_l rfl (fun K5 hK5 => l_store0A ty26 hF hS rfl rfl (i := 0) rfl rfl rfl rfl (fun a w hF hS => hK5 _ _ ?_))
  refine hK3 _ _ ?_
  refine c_seq (fun K6 hK6 => ?_)
  refine c_reg ?_
  refine n_q hF hS (q_move rfl) rfl (fun a hF => ?_)
  refine n_q hF hS (q_nilCheck rfl) rfl (fun a hF => ?_)
  refine n_q hF hS (q_fieldAddr fl145_0 (by decide) rfl) rfl (fun a hF => ?_)
  refine n_q hF hS (q_fieldAddr fl26_2 (by decide) rfl) rfl (fun a hF => ?_)
  refine n_q hF hS (q_loadG (o := 0 + 0 + 2) (v := .slice s.la s.logs.length s.lc) ty24 rfl hb.h (Nat.le_of_ble_eq_true rfl) rfl rfl) rfl (fun a hF => ?_)
  refine n_l rfl (fun K7 hK7 => l_call en91 hF rfl rfl (cloneL_c s.logs s.la s.lc ho.len _ _ hS.fz ho.rd.rd_lg) (fun v7 w hR a hF => ?_))
  obtain ⟨ad, cp, Lx, rfl, hO, hc⟩ := hR
  replace hS : St _ _ ([_, _] ++ Lx) _ := (hS.call hc).perm List.perm_append_comm
  have hcp := hO.le
  obtain ⟨fL, hf0, hfO, hpos⟩ := hO.famL
  refine hK7 _ _ ?_
  refine n_q hF hS (q_fieldAddr fl26_2 (by decide) rfl) rfl (fun a hF => ?_)
  refine n_l rfl (fun K8 hK8 => l_store (vs := [_]) ty24 hF hS rfl rfl (i := 0) rfl rfl rfl rfl rfl (fun a w hF hS => hK8 _ _ ?_))
  refine hK6 _ _ ?_
  refine c_seq (fun K9 hK9 => ?_)
  refine c_reg ?_
  refine n_q hF hS (q_move rfl) rfl (fun a hF => ?_)
  refine n_q hF hS (q_move rfl) rfl (fun a hF => ?_)
  refine n_l rfl (fun K10 hK10 => l_call en83 hF rfl rfl (log_c s b f hs _ _ hS.fz hb ho) (fun v10 w hR a hF => ?_))
  obtain ⟨p, rfl, hp, hc⟩ := hR
  replace hS := hS.call0 hc
  refine hK10 _ _ ?_
  refine n_q hF hS (q_move rfl) rfl (fun a hF => ?_)
  refine n_q hF hS (q_extract (i := 0) rfl rfl) rfl (fun a hF => ?_)
  refine n_q hF hS (q_extract (i := 1) rfl rfl) rfl (fun a hF => ?_)
  refine n_q hF hS (q_assign rfl) rfl (fun a hF => ?_)
  refine n_q hF hS (q_assign rfl) rfl (fun a hF => ?_)
  refine hK9 _ _ ?_
  refine c_seq (fun K11 hK11 => ?_)
  refine c_seq (fun K12 hK12 => ?_)
  refine c_reg ?_
  refine n_q hF hS (q_move rfl) rfl (fun a hF => ?_)
  refine hK12 _ _ ?_
  refine sp hF (s := 27) rfl (fun hc27 hF => ?_) (fun hc27 hF => ?_)
  · refine c_true hF rfl ?_
    refine c_reg ?_
    obtain ⟨l, hl?, hlf⟩ := atF_some hc27
    have hlt := (List.getElem?_eq_some_iff.1 hl?).1
    obtain ⟨bb, tail, hab, hfb⟩ := hpos (by omega)
    subst hab
    rw [← hf0, hfb] at hS
    have hfl : ((lgE s.logs).flatten ++ tail).length = s.logs.length * 2 + tail.length := by rw [List.length_append, lgE_len]
    obtain ⟨n2, hn2⟩ : ∃ q, q = s.logs.length := ⟨_, rfl⟩
    refine n_q hF hS (q_fieldAddr fl26_2 (by decide) rfl) rfl (fun a hF => ?_)
    refine n_q hF hS (q_load ty24 rfl (i := 0) rfl rfl rfl (show ldv false 1 [.int .i64 s.id, .int .i64 s.priv, .slice (some ⟨bb, 0, none⟩) s.logs.length cp] 2 = some (.slice (some ⟨bb, 0, none⟩) s.logs.length cp) from rfl)) rfl (fun a hF => ?_)
    refine n_q hF hS (q_move rfl) rfl (fun a hF => ?_)
    refine n_q hF hS (q_move rfl) rfl (fun a hF => ?_)
    refine n_q hF hS (q_indexAddrSO (j := p * 2) Tryd.underlying24 ty100 rfl rfl (by omega) (by omega)) rfl (fun a hF => ?_)
    refine n_q hF hS (q_fieldAddr fl100_1 (by decide) rfl) rfl (fun a hF => ?_)
    refine n_l rfl (fun K13 hK13 => l_store (vs := [_]) ty31 hF hS rfl rfl (i := 2) rfl rfl rfl (by rw [Nat.ble_eq, hfl]; omega) rfl (fun a w hF hS => hK13 _ _ ?_))
    try dsimp only [List.set] at hS
    rw [clog_st hl?] at hS
    obtain ⟨logs2, hlg2⟩ : ∃ q, q = s.logs.set p (l.re al cl es) := ⟨_, rfl⟩
    have hlen2 : logs2.length = s.logs.length := by rw [hlg2, List.length_set]
    obtain ⟨ad2, had2⟩ : ∃ q, q = (some ⟨bb, 0, none⟩ : Option Addr) := ⟨_, rfl⟩
    obtain ⟨cp2, hcp2⟩ : ∃ q, q = cp := ⟨_, rfl⟩
    obtain ⟨Lx2, hLx2⟩ : ∃ q, q = fL logs2 := ⟨_, rfl⟩
    have hO2 : OwS 100 2 (.slice ad2 logs2.length cp2) logs2.length (lgE logs2).flatten Lx2 := by
      have := hfO logs2 hlen2
      rw [hLx2, had2, hcp2, hlen2]; exact this
    replace hS := St.cast (L' := [⟨b2, [.int .i64 s.id, .int .i64 s.priv, .slice ad2 n2 cp2], 26⟩, ⟨b1, [.int .i64 0, .int .i64 0, .slice none 0 0], 26⟩] ++ Lx2) hS (by rw [hLx2, hfb, hlg2, had2, hn2, hcp2]; rfl)
    replace hn2 : n2 = logs2.length := by rw [hn2, hlen2]
    have hrep : logs2 = repL s.logs p (atF s.logs f p) ⟨f, al, cl, es⟩ := by rw [hc27, hlg2]; show _ = s.logs.set p _; rw [← hlf]; rfl
    refine hK11 _ _ ?_
    refine c_seq (fun K14 hK14 => ?_)
    refine c_reg ?_
    refine n_q hF hS (q_load0 ty26 rfl (i := 0) rfl rfl rfl) rfl (fun a hF => ?_)
    obtain ⟨H6, hle6, hS6, hr6⟩ := hO2.freeze (St.perm (L' := Lx2 ++ [_, _]) hS List.perm_append_comm)
    replace hS := hS6
    replace ho := ho.mono hle6
    replace hl := hl.mono hle6
    refine rw_ hF (s := 43) (u := .agg (Sto.c ⟨s.id, s.priv, ad2, cp2, logs2⟩).toArray) rfl (by rw [Sto.c, ← hn2]) (fun hF => ?_)
    have hso : StOK H6 ⟨s.id, s.priv, ad2, cp2, logs2⟩ := ⟨RdL.of_lg hr6, fun x hx => by
      rw [hrep] at hx
      rcases repL_mem hp.le hx with rfl | hx
      · exact hl
      · exact ho.lg x hx, by show logs2.length ≤ _; have := repL_len (b := atF s.logs f p) (l := ⟨f, al, cl, es⟩) hp.le; rw [← hrep] at this; omega, hO2.le⟩
    refine n_l rfl (fun K15 hK15 => l_call en59 hF rfl rfl (copied_c ⟨s.id, s.priv, ad2, cp2, logs2⟩ _ _ hS.fz hso) (fun v15 w hR a hF => ?_))
    obtain ⟨s', H7, rfl, hle7, ho7, hid7, hpr7, hkey7, hc⟩ := hR
    replace hS := hS.call hc
    refine hK15 _ _ ?_
    refine n_l rfl (fun K16 hK16 => l_store0A ty26 hF hS rfl rfl (i := 1) rfl rfl rfl rfl (fun a w hF hS => hK16 _ _ ?_))
    refine hK14 _ _ ?_
    refine c_ret ?_
    repeat (first | refine ret_then ?_ | refine ret_blk ?_)
    refine c_ret' (P := Tryd.prog) (fn := Tryd.f61) rfl hF hS (.cell0 rfl ty26 (i := 1) rfl rfl rfl .nil) ⟨_, rfl, ?_⟩
    exact ⟨s', _, rfl, hS.le, ho7, hid7, hpr7, by rw [hkey7]; show logs2.map Lg.key = _; rw [hrep, repL_key hp _ rfl], hS.nil⟩
  · refine c_false hF rfl ?_
    refine c_reg ?_
    refine n_q hF hS (q_fieldAddr fl26_2 (by decide) rfl) rfl (fun a hF => ?_)
    refine n_q hF hS (q_load ty24 rfl (i := 0) rfl rfl rfl (show ldv false 1 [.int .i64 s.id, .int .i64 s.priv, .slice ad s.logs.length cp] 2 = some (.slice ad s.logs.length cp) from rfl)) rfl (fun a hF => ?_)
    refine n_q hF hS (q_move rfl) rfl (fun a hF => ?_)
    refine n_q hF hS (q_move rfl) rfl (fun a hF => ?_)
    refine n_q hF hS (q_move rfl) rfl (fun a hF => ?_)
    refine n_q hF hS (q_build (P := Tryd.prog) (T := 100) (cs := [_, _]) zr100 pl100 rfl (by first | rfl | simp [bld, spl, dc_length, Hd.c_len, En.c_len, List.length_replicate, List.length_cons, List.length_nil, List.length_append])) rfl (fun a hF => ?_)
    refine n_l rfl (fun K17 hK17 => l_buildO (els := [Lg.c ⟨f, al, cl, es⟩]) Tryd.underlying24 ty100 zr100 hF hS rfl rfl rfl (fun e he => by rw [List.mem_singleton.1 he]; rfl) rfl rfl rfl (fun a w b3 hF hS => hK17 _ _ ?_))
    obtain ⟨H5, hH5, hle5, hS5⟩ := hS.freeze' (i := 0) rfl
    have hbv : H5 b3 = some (.cells (Lg.c ⟨f, al, cl, es⟩).toArray 100 (0, 0)) := by rw [hH5]; exact frz_self _ ⟨b3, _, 100⟩
    have hrv : RdS H5 (some ⟨b3, 0, none⟩) 1 2 (Lg.c ⟨f, al, cl, es⟩) := ⟨rfl, fun _ => ⟨b3, 0, rfl, fun j v hv => by rw [hcell, hbv]; simpa using hv⟩⟩
    replace hS := (St.cast (L' := [⟨b2, [.int .i64 s.id, .int .i64 s.priv, .slice ad s.logs.length cp], 26⟩, ⟨b1, [.int .i64 0, .int .i64 0, .slice none 0 0], 26⟩] ++ Lx) hS5 rfl).perm (L' := Lx ++ [_, _]) List.perm_append_comm
    replace hb := hb.mono hle5
    replace ho := ho.mono hle5
    replace hl := hl.mono hle5
    refine n_l rfl (fun K18 hK18 => l_call en92 hF rfl rfl (InsertL_c s.logs ⟨f, al, cl, es⟩ p hp.le (by omega) ad cp Lx hO b3 _ _ hS.hand hbv hrv) (fun v18 w hR a hF => ?_))
    obtain ⟨ad2, cp2, Lx2, rfl, hO2, hc⟩ := hR
    replace hS : St _ _ ([_, _] ++ Lx2) _ := (hS.callG hc).perm List.perm_append_comm
    refine hK18 _ _ ?_
    refine n_q hF hS (q_fieldAddr fl26_2 (by decide) rfl) rfl (fun a hF => ?_)
    refine n_l rfl (fun K19 hK19 => l_store (vs := [_]) ty24 hF hS rfl rfl (i := 0) rfl rfl rfl rfl rfl (fun a w hF hS => hK19 _ _ ?_))
    try dsimp only [List.set] at hS
    obtain ⟨logs2, hlg2⟩ : ∃ q, q = s.logs.insertIdx p ⟨f, al, cl, es⟩ := ⟨_, rfl⟩
    have hlen2 : logs2.length = s.logs.length + 1 := by rw [hlg2, List.length_insertIdx_of_le_length hp.le]
    obtain ⟨n2, hn2⟩ : ∃ q, q = s.logs.length + 1 := ⟨_, rfl⟩
    replace hO2 : OwS 100 2 (.slice ad2 logs2.length cp2) logs2.length (lgE logs2).flatten Lx2 := by rw [hlen2, hlg2]; exact hO2
    replace hS := St.cast (L' := [⟨b2, [.int .i64 s.id, .int .i64 s.priv, .slice ad2 n2 cp2], 26⟩, ⟨b1, [.int .i64 0, .int .i64 0, .slice none 0 0], 26⟩] ++ Lx2) hS (by rw [hn2]; rfl)
    replace hn2 : n2 = logs2.length := by rw [hn2, hlen2]
    have hrep : logs2 = repL s.logs p (atF s.logs f p) ⟨f, al, cl, es⟩ := by rw [hc27, hlg2]; rfl
    refine hK11 _ _ ?_
    refine c_seq (fun K20 hK20 => ?_)
    refine c_reg ?_
    refine n_q hF hS (q_load0 ty26 rfl (i := 0) rfl rfl rfl) rfl (fun a hF => ?_)
    obtain ⟨H6, hle6, hS6, hr6⟩ := hO2.freeze (St.perm (L' := Lx2 ++ [_, _]) hS List.perm_append_comm)
    replace hS := hS6
    replace ho := ho.mono hle6
    replace hl := hl.mono hle6
    refine rw_ hF (s := 43) (u := .agg (Sto.c ⟨s.id, s.priv, ad2, cp2, logs2⟩).toArray) rfl (by rw [Sto.c, ← hn2]) (fun hF => ?_)
    have hso : StOK H6 ⟨s.id, s.priv, ad2, cp2, logs2⟩ := ⟨RdL.of_lg hr6, fun x hx => by
      rw [hrep] at hx
      rcases repL_mem hp.le hx with rfl | hx
      · exact hl
      · exact ho.lg x hx, by show logs2.length ≤ _; have := repL_len (b := atF s.logs f p) (l := ⟨f, al, cl, es⟩) hp.le; rw [← hrep] at this; omega, hO2.le⟩
    refine n_l rfl (fun K21 hK21 => l_call en59 hF rfl rfl (copied_c ⟨s.id, s.priv, ad2, cp2, logs2⟩ _ _ hS.fz hso) (fun v21 w hR a hF => ?_))
    obtain ⟨s', H7, rfl, hle7, ho7, hid7, hpr7, hkey7, hc⟩ := hR
    replace hS := hS.call hc
    refine hK21 _ _ ?_
    refine n_l rfl (fun K22 hK22 => l_store0A ty26 hF hS rfl rfl (i := 1) rfl rfl rfl rfl (fun a w hF hS => hK22 _ _ ?_))
    refine hK20 _ _ ?_
    refine c_ret ?_
    repeat (first | refine ret_then ?_ | refine ret_blk ?_)
    refine c_ret' (P := Tryd.prog) (fn := Tryd.f61) rfl hF hS (.cell0 rfl ty26 (i := 1) rfl rfl rfl .nil) ⟨_, rfl, ?_⟩
    exact ⟨s', _, rfl, hS.le, ho7, hid7, hpr7, by rw [hkey7]; show logs2.map Lg.key = _; rw [hrep, repL_key hp _ rfl], hS.nil⟩
end Go.Proofs.YtneokajhmonpaaaDoor
namespace Go.Proofs.YtneokajhmonpaaaDoor
open Go Go.RowKit Go.W
set_option maxRecDepth 10000
namespace T33
theorem bt48 : byS Tryd.prog 48 = some 72 := by kernel_rfl
theorem en22 : enS Tryd.prog 22 = true := by kernel_rfl
theorem en46 : enS Tryd.prog 46 = true := by kernel_rfl
theorem en47 : enS Tryd.prog 47 = true := by kernel_rfl
theorem en56 : enS Tryd.prog 56 = true := by kernel_rfl
theorem en57 : enS Tryd.prog 57 = true := by kernel_rfl
theorem en59 : enS Tryd.prog 59 = true := by kernel_rfl
theorem en60 : enS Tryd.prog 60 = true := by kernel_rfl
theorem en61 : enS Tryd.prog 61 = true := by kernel_rfl
theorem pl48 : plS Tryd.prog 48 = some [(0, 1), (1, 32), (33, 1), (34, 1)] := by kernel_rfl
theorem ty26 : tyS Tryd.prog 26 = some (true, 3) := by kernel_rfl
theorem ty35 : tyS Tryd.prog 35 = some (true, 32) := by kernel_rfl
theorem ty48 : tyS Tryd.prog 48 = some (true, 35) := by kernel_rfl
theorem zr26 : zrS Tryd.prog 26 = some [.int .i64 0, .int .i64 0, .slice none 0 0] := by kernel_rfl
theorem zr35 : zrS Tryd.prog 35 = some (List.replicate 32 (.int .u8 0)) := by kernel_rfl
theorem zr48 : zrS Tryd.prog 48 = some [.int .i64 0, .int .u8 0, .int .u8 0, .int .u8 0, .int .u8 0, .int .u8 0, .int .u8 0, .int .u8 0, .int .u8 0, .int .u8 0, .int .u8 0, .int .u8 0, .int .u8 0, .int .u8 0, .int .u8 0, .int .u8 0, .int .u8 0, .int .u8 0, .int .u8 0, .int .u8 0, .int .u8 0, .int .u8 0, .int .u8 0, .int .u8 0, .int .u8 0, .int .u8 0, .int .u8 0, .int .u8 0, .int .u8 0, .int .u8 0, .int .u8 0, .int .u8 0, .int .u8 0, .slice none 0 0, .bool false] := by kernel_rfl
theorem mo : Tryd.prog.follows .mixedOrders = true := by kernel_rfl
end T33
open T33

set_option maxHeartbeats 800000 in
theorem Put_c (s : Sto) (f kind : Int) (bs : List UInt8) (da : Option Addr) (dn dp : Nat) (hdn : dn ≤ 1000000) (hdp : dn ≤ dp) (w : World) (H : Froz) (hz : Fz H w) (hg : Gl 0 1 H) (ho : StOK H s) (hd : RdS H da dn 1 (bc bs)) :
    CallsR Tryd.prog 20 [.agg s.c.toArray, .int .i64 f, .int .i64 kind, .slice da dn dp] w fun v w' => ∃ s' H', v = .tuple #[.agg s'.c.toArray, .int .i64 (putNo s f kind bs), .int .i64 (putE s f kind bs)] ∧ Le H H' ∧ StOK H' s' ∧ PutR s f kind bs s' ∧ St ⟨w, H, []⟩ H' [] w' := by
  refine calls_start Tryd.func20 rfl Tryd.ntmps20 rfl (fun a hF => ?_)
  have hS := St.start w H hz
  refine c_seq (fun K1 hK1 => ?_)
  refine c_reg ?_
  refine n_l rfl (fun K2 hK2 => l_boxA hF hS rfl rfl (fun a w b1 hF hS => hK2 _ _ ?_))
  refine n_l rfl (fun K3 hK3 => l_alloc hF hS zr26 rfl (fun a w b2 hF hS => hK3 _ _ ?_))
  refine n_q hF hS (q_assign rfl) rfl (fun a hF => ?_)
  refine n_q hF hS (q_assign rfl) rfl (fun a hF => ?_)
  refine hK1 _ _ ?_
  refine c_seq (fun K4 hK4 => ?_)
  refine c_reg ?_
  refine n_q hF hS (q_load0 ty26 rfl (i := 1) rfl rfl rfl) rfl (fun a hF => ?_)
  refine n_q hF hS (q_move rfl) rfl (fun a hF => ?_)
  refine n_l rfl (fun K5 hK5 => l_call en46 hF rfl rfl (open_c s f _ _ hS.fz hg ho) (fun v5 w hR a hF => ?_))
  obtain ⟨pp, Ho, rfl, hleo, hopen, hc⟩ := hR
  replace hS := hS.call hc
  replace hg := hg.mono hleo
  replace ho := ho.mono hleo
  replace hd := hd.mono hleo
  refine hK5 _ _ ?_
  refine n_q hF hS (q_move rfl) rfl (fun a hF => ?_)
  refine n_q hF hS (q_extract (i := 0) rfl rfl) rfl (fun a hF => ?_)
  refine n_q hF hS (q_extract (i := 1) rfl rfl) rfl (fun a hF => ?_)
  refine n_q hF hS (q_assign rfl) rfl (fun a hF => ?_)
  refine n_q hF hS (q_assign rfl) rfl (fun a hF => ?_)
  refine hK4 _ _ ?_
  refine c_seq (fun K6 hK6 => ?_)
  refine c_seq (fun K7 hK7 => ?_)
  refine c_reg ?_
  refine n_q hF hS (q_move rfl) rfl (fun a hF => ?_)
  refine n_q hF hS (q_neI rfl rfl) rfl (fun a hF => ?_)
  refine hK7 _ _ ?_
  refine spn hF (s := 22) rfl (fun hc22 hF => ?_) (fun hc22 hF => ?_)
  · refine c_true hF rfl ?_
    refine c_seq (fun K8 hK8 => ?_)
    refine c_reg ?_
    refine n_q hF hS (q_load0 ty26 rfl (i := 0) rfl rfl rfl) rfl (fun a hF => ?_)
    refine n_q hF hS (q_move rfl) rfl (fun a hF => ?_)
    refine n_l rfl (fun K9 hK9 => l_store0A ty26 hF hS rfl rfl (i := 0) rfl rfl rfl rfl (fun a w hF hS => hK9 _ _ ?_))
    refine n_q hF hS (q_assign rfl) rfl (fun a hF => ?_)
    refine n_q hF hS (q_assign rfl) rfl (fun a hF => ?_)
    refine hK8 _ _ ?_
    refine c_ret ?_
    repeat (first | refine ret_then ?_ | refine ret_blk ?_)
    refine c_ret' (P := Tryd.prog) (fn := Tryd.f20) rfl hF hS (.cell0 rfl ty26 (i := 0) rfl rfl rfl (.tmp rfl (.tmp rfl .nil))) ⟨_, rfl, ?_⟩
    obtain ⟨he, hno⟩ := putE_open (s := s) (f := f) (kind := kind) (bs := bs) hc22
    exact ⟨zSto, _, by rw [he, hno]; rfl, hS.le, StOK.zero _, ⟨fun h => (by rw [he] at h; first | exact absurd h hc22 | cases h), fun _ => rfl⟩, hS.nil⟩
  · refine c_false hF rfl ?_
    refine wp_skip ?_
    refine hK6 _ _ ?_
    refine c_seq (fun K10 hK10 => ?_)
    refine c_seq (fun K11 hK11 => ?_)
    refine c_reg ?_
    obtain ⟨bb, rfl, hbb⟩ := hopen hc22
    have hlg := checkN_ok (openE_ok hc22).1
    have hsrt := sorted_of hlg
    have hl16 := logs_le hlg
    refine n_q hF hS (q_move rfl) rfl (fun a hF => ?_)
    refine n_l rfl (fun K12 hK12 => l_call en56 hF rfl rfl (isKind_c kind _ _ hS.fz) (fun v12 w hR a hF => ?_))
    obtain ⟨rfl, hc⟩ := hR
    replace hS := hS.call0 hc
    refine hK12 _ _ ?_
    refine n_q hF hS (q_not rfl) rfl (fun a hF => ?_)
    refine hK11 _ _ ?_
    refine spn hF (s := 27) rfl (fun hc27 hF => ?_) (fun hc27 hF => ?_)
    · refine c_true hF rfl ?_
      refine c_seq (fun K13 hK13 => ?_)
      refine c_reg ?_
      refine n_q hF hS (q_load0 ty26 rfl (i := 0) rfl rfl rfl) rfl (fun a hF => ?_)
      refine n_l rfl (fun K14 hK14 => l_store0A ty26 hF hS rfl rfl (i := 0) rfl rfl rfl rfl (fun a w hF hS => hK14 _ _ ?_))
      refine n_q hF hS (q_assign rfl) rfl (fun a hF => ?_)
      refine n_q hF hS (q_assign rfl) rfl (fun a hF => ?_)
      refine hK13 _ _ ?_
      refine c_ret ?_
      repeat (first | refine ret_then ?_ | refine ret_blk ?_)
      refine c_ret' (P := Tryd.prog) (fn := Tryd.f20) rfl hF hS (.cell0 rfl ty26 (i := 0) rfl rfl rfl (.tmp rfl (.tmp rfl .nil))) ⟨_, rfl, ?_⟩
      obtain ⟨he, hno⟩ := putE_kind (bs := bs) hc22 (by omega)
      exact ⟨zSto, _, by rw [he, hno]; rfl, hS.le, StOK.zero _, ⟨fun h => (by rw [he] at h; first | exact absurd h hc22 | cases h), fun _ => rfl⟩, hS.nil⟩
    · refine c_false hF rfl ?_
      refine wp_skip ?_
      refine hK10 _ _ ?_
      refine c_seq (fun K15 hK15 => ?_)
      refine c_reg ?_
      have hkd : 1 ≤ kind ∧ kind ≤ 7 := by omega
      refine n_q hF hS (q_move rfl) rfl (fun a hF => ?_)
      refine n_q hF hS (q_move rfl) rfl (fun a hF => ?_)
      refine n_l rfl (fun K16 hK16 => l_call en47 hF rfl rfl (entries_c s bb f hsrt _ _ hS.fz hbb ho) (fun v16 w hR a hF => ?_))
      obtain ⟨p, l, hpos, hcase, rfl, hc⟩ := hR
      replace hS := hS.call0 hc
      obtain ⟨hent, hlo⟩ : entF s.logs f = l.es ∧ LgOK _ l := by
        rcases hcase with ⟨h1, h2⟩ | ⟨h1, h2⟩
        · exact ⟨entF_yes hpos h1 h2, ho.lg l (List.mem_of_getElem? h2)⟩
        · subst h2; exact ⟨entF_no hsrt hpos h1, LgOK.nil _ f⟩
      have hlen := hlo.len
      have h65 : l.es.length ≤ 65536 := by
        rcases hcase with ⟨h1, h2⟩ | ⟨h1, h2⟩
        · exact ent_le hlg h2
        · subst h2; exact Nat.zero_le _
      refine hK16 _ _ ?_
      refine n_q hF hS (q_move rfl) rfl (fun a hF => ?_)
      refine n_q hF hS (q_move rfl) rfl (fun a hF => ?_)
      refine n_l rfl (fun K17 hK17 => l_call en22 hF rfl rfl (Digest_c kind bs da dn dp hdn hdp _ _ hS.fz hg hd) (fun v17 w hR a hF => ?_))
      obtain ⟨rfl, hc⟩ := hR
      replace hS := hS.call0 hc
      refine hK17 _ _ ?_
      refine n_l rfl (fun K18 hK18 => l_alloc hF hS zr35 rfl (fun a w b3 hF hS => hK18 _ _ ?_))
      refine n_q hF hS (q_assign rfl) rfl (fun a hF => ?_)
      refine n_l rfl (fun K19 hK19 => l_store0A ty35 hF hS rfl rfl (i := 0) rfl (by simp [dc_length, Hd.c_len, En.c_len, List.length_replicate, List.length_cons, List.length_nil, List.length_append]) (by simp [dc_length, Hd.c_len, En.c_len, List.length_replicate, List.length_cons, List.length_nil, List.length_append]) (by first | exact dc_all1 _ | rfl | simp [all1]) (fun a w hF hS => hK19 _ _ ?_))
      refine hK15 _ _ ?_
      refine c_seq (fun K20 hK20 => ?_)
      refine c_seq (fun K21 hK21 => ?_)
      refine c_reg ?_
      have hix := idxDg_lt l.es (digE kind bs)
      obtain ⟨H_hbd, hH_hbd, hle_hbd, hS_hbd⟩ := hS.freeze' (i := 0) rfl
      replace hS := hS_hbd
      replace hg := hg.mono hle_hbd
      replace ho := ho.mono hle_hbd
      replace hd := hd.mono hle_hbd
      replace hlo := hlo.mono hle_hbd
      replace hbb := hbb.mono hle_hbd
      have hbd : HR H_hbd b3 (dc (digE kind bs)) := by rw [hH_hbd]; exact frz_hr
      refine n_q hF hS (q_move rfl) rfl (fun a hF => ?_)
      refine n_q hF hS (q_makeFunc rfl rfl) rfl (fun a hF => ?_)
      refine n_l rfl (fun K22 hK22 => l_call en57 hF rfl rfl (IndexFuncE_c l.es (digE kind bs) b3 l.ea l.ec hlen _ _ hS.fz hlo.rd hbd) (fun v22 w hR a hF => ?_))
      obtain ⟨rfl, hc⟩ := hR
      replace hS := hS.call0 hc
      refine hK22 _ _ ?_
      refine n_q hF hS (q_assign rfl) rfl (fun a hF => ?_)
      refine hK21 _ _ ?_
      refine c_seq (fun K23 hK23 => ?_)
      refine c_reg ?_
      refine n_q hF hS (q_move rfl) rfl (fun a hF => ?_)
      refine n_q hF hS (q_geq rfl rfl) rfl (fun a hF => ?_)
      refine hK23 _ _ ?_
      refine spd hF (s := 39) rfl (fun hc39 hF => ?_) (fun hc39 hF => ?_)
      · refine c_true hF rfl ?_
        refine c_seq (fun K24 hK24 => ?_)
        refine c_reg ?_
        refine n_q hF hS (q_load0 ty26 rfl (i := 1) rfl rfl rfl) rfl (fun a hF => ?_)
        refine n_l rfl (fun K25 hK25 => l_call en59 hF rfl rfl (copied_c s _ _ hS.fz ho) (fun v25 w hR a hF => ?_))
        obtain ⟨s', H7, rfl, hle7, ho7, hid7, hpr7, hkey7, hc⟩ := hR
        replace hS := hS.call hc
        refine hK25 _ _ ?_
        refine n_q hF hS (q_move rfl) rfl (fun a hF => ?_)
        refine n_q hF hS (q_addI rfl rfl (by omega)) rfl (fun a hF => ?_)
        refine n_l rfl (fun K26 hK26 => l_store0A ty26 hF hS rfl rfl (i := 0) rfl rfl rfl rfl (fun a w hF hS => hK26 _ _ ?_))
        refine n_q hF hS (q_assign rfl) rfl (fun a hF => ?_)
        refine n_q hF hS (q_assign rfl) rfl (fun a hF => ?_)
        refine hK24 _ _ ?_
        refine c_ret ?_
        repeat (first | refine ret_then ?_ | refine ret_blk ?_)
        refine c_ret' (P := Tryd.prog) (fn := Tryd.f20) rfl hF hS (.cell0 rfl ty26 (i := 0) rfl rfl rfl (.tmp rfl (.tmp rfl .nil))) ⟨_, rfl, ?_⟩
        obtain ⟨he, hno, hk⟩ := putE_met hc22 hkd (by rw [hent]; exact hc39)
        exact ⟨s', _, by rw [he, hno, hent]; rfl, hS.le, ho7, ⟨fun _ => ⟨hid7, hpr7, by rw [hkey7, hk]⟩, fun h => absurd he h⟩, hS.nil⟩
      · refine c_false hF rfl ?_
        refine wp_skip ?_
        refine hK20 _ _ ?_
        refine c_seq (fun K27 hK27 => ?_)
        refine c_seq (fun K28 hK28 => ?_)
        refine c_reg ?_
        refine n_q hF hS (q_move rfl) rfl (fun a hF => ?_)
        refine n_q hF hS (q_len Tryd.underlying31 rfl rfl) rfl (fun a hF => ?_)
        refine n_q hF hS (q_eqI rfl rfl) rfl (fun a hF => ?_)
        refine hK28 _ _ ?_
        refine spd hF (s := 46) rfl (fun hc46 hF => ?_) (fun hc46 hF => ?_)
        · refine c_true hF rfl ?_
          refine c_seq (fun K29 hK29 => ?_)
          refine c_reg ?_
          refine n_q hF hS (q_load0 ty26 rfl (i := 0) rfl rfl rfl) rfl (fun a hF => ?_)
          refine n_l rfl (fun K30 hK30 => l_store0A ty26 hF hS rfl rfl (i := 0) rfl rfl rfl rfl (fun a w hF hS => hK30 _ _ ?_))
          refine n_q hF hS (q_assign rfl) rfl (fun a hF => ?_)
          refine n_q hF hS (q_assign rfl) rfl (fun a hF => ?_)
          refine hK29 _ _ ?_
          refine c_ret ?_
          repeat (first | refine ret_then ?_ | refine ret_blk ?_)
          refine c_ret' (P := Tryd.prog) (fn := Tryd.f20) rfl hF hS (.cell0 rfl ty26 (i := 0) rfl rfl rfl (.tmp rfl (.tmp rfl .nil))) ⟨_, rfl, ?_⟩
          obtain ⟨he, hno⟩ := putE_full hc22 hkd (by rw [hent]; exact hc39) (by rw [hent]; omega)
          exact ⟨zSto, _, by rw [he, hno]; rfl, hS.le, StOK.zero _, ⟨fun h => (by rw [he] at h; first | exact absurd h hc22 | cases h), fun _ => rfl⟩, hS.nil⟩
        · refine c_false hF rfl ?_
          refine wp_skip ?_
          refine hK27 _ _ ?_
          refine c_seq (fun K31 hK31 => ?_)
          refine r_start (fun L => L) [] mo hS (fun w hS => ?_)
          refine r_q (i := 0) rfl (by kernel_rfl) (by kernel_rfl) rfl (by kernel_rfl) (fun _ _ _ _ h => h) hF hS (q_move rfl) rfl (fun a hF => ?_)
          refine r_q (i := 2) rfl (by kernel_rfl) (by kernel_rfl) rfl (by kernel_rfl) (fun _ _ _ _ h => h) hF hS (q_move rfl) rfl (fun a hF => ?_)
          refine r_q (i := 3) rfl (by kernel_rfl) (by kernel_rfl) rfl (by kernel_rfl) (fun _ _ _ _ h => h) hF hS (q_loadG (o := 0) (v := .agg (dc (digE kind bs)).toArray) ty35 rfl hbd.h (by rw [dc_length]; decide) rfl (by simp only [ldv, cond_true, List.drop_zero]; rw [List.take_of_length_le (by rw [dc_length]; exact Nat.le_refl _)])) rfl (fun a hF => ?_)
          refine r_q (i := 4) rfl (by kernel_rfl) (by kernel_rfl) rfl (by kernel_rfl) (fun _ _ _ _ h => h) hF hS (q_move rfl) rfl (fun a hF => ?_)
          refine r_q (i := 5) rfl (by kernel_rfl) (by kernel_rfl) rfl (by kernel_rfl) (fun _ _ _ _ h => h) hF hS (q_build (P := Tryd.prog) (T := 48) (cs := En.c ⟨kind, digE kind bs, da, dn, dp, bs, false⟩) zr48 pl48 rfl (bld_en kind (digE kind bs) da dn dp bs)) rfl (fun a hF => ?_)
          refine r_two (i := 1) (j := 6) (by kernel_rfl) ?_ ?_
          · have hsub := hS.sub
            refine r_li rfl rfl (fun K32 hK32 => l_call en60 hF rfl rfl (Clip_c l.ea l.es.length l.ec hlo.cap _ _ hS.fz) (fun v32 w hR a hF => ?_))
            obtain ⟨rfl, hc⟩ := hR
            replace hS := hS.call0 hc
            refine hK32 _ _ _ hS (fun _ h => h) ?_
            refine r_one (i := 6) (by kernel_rfl) ?_
            have hsub := hS.sub
            refine r_li rfl rfl (fun K33 hK33 => l_buildF (els := [En.c ⟨kind, digE kind bs, da, dn, dp, bs, false⟩]) Tryd.underlying31 ty48 zr48 hF hS rfl rfl rfl (fun e he => by rw [List.mem_singleton.1 he]; exact En.c_len _) rfl rfl rfl (fun a w b4 hF hle hS r12_6 => ?_))
            replace hg := hg.mono hle
            replace ho := ho.mono hle
            replace hd := hd.mono hle
            replace hlo := hlo.mono hle
            replace hbb := hbb.mono hle
            replace hbd := hbd.mono hle
            refine hK33 _ _ _ hS (fun _ h => h.forget hsub hle) ?_
            refine r_one (i := 7) (by kernel_rfl) ?_
            refine r_li rfl rfl (fun K34 hK34 => l_appendF Tryd.underlying31 ty48 zr48 bt48 hF hS rfl rfl (hlo.rd.rd_en) (.slice Tryd.underlying31 r12_6.rd (by simp only [List.flatten_cons, List.flatten_nil, List.append_nil]; exact En.c_all1 _)) (by omega) (by omega) (by simp only [maxLen]; omega) rfl rfl (fun a w c12_7 ad12_7 Lx12_7 ho12_7 hF hS => hK34 _ _ _ hS (fun _ h => h.lose (List.sublist_append_right _ _)) ?_))
            refine r_q (i := 8) rfl (by kernel_rfl) (by kernel_rfl) rfl (by kernel_rfl) (fun _ _ _ _ h => h) hF hS (q_assign rfl) rfl (fun a hF => ?_)
            refine r_done (by kernel_rfl) ?_
            refine hK31 _ _ ?_
            refine c_seq (fun K35 hK35 => ?_)
            refine c_reg ?_
            obtain ⟨H6, hle6, hS6, hr6⟩ := ho12_7.freeze hS
            replace hS := hS6
            replace hbb := hbb.mono hle6
            replace ho := ho.mono hle6
            replace hd := hd.mono hle6
            replace hlo := hlo.mono hle6
            obtain ⟨es2, hes2⟩ : ∃ q, q = l.es ++ [(⟨kind, digE kind bs, da, dn, dp, bs, false⟩ : En)] := ⟨_, rfl⟩
            have hn2 : es2.length = l.es.length + 1 := by rw [hes2, List.length_append]; rfl
            have hk2 : es2.map En.key = l.es.map En.key ++ [(kind, digE kind bs, bs, false)] := by rw [hes2, List.map_append]; rfl
            have hrd2 : RdL H6 ad12_7 35 (enE es2) := RdL.of_en (by rw [hn2, hes2, enE_snoc]; exact hr6)
            have hen2 : EnsOK H6 es2 := fun e he => by
              rw [hes2] at he
              rcases List.mem_append.1 he with he | he
              · exact hlo.en e he
              · rw [List.mem_singleton.1 he]; exact ⟨hd, hdp, hdn⟩
            have hlo2 : LgOK H6 ⟨f, ad12_7, c12_7, es2⟩ := ⟨hrd2, hen2, by show es2.length ≤ _; omega, by show es2.length ≤ _; rw [hn2]; exact ho12_7.le⟩
            clear hes2
            refine n_q hF hS (q_move rfl) rfl (fun a hF => ?_)
            refine n_q hF hS (q_move rfl) rfl (fun a hF => ?_)
            refine n_q hF hS (q_move rfl) rfl (fun a hF => ?_)
            refine rw_ hF (s := 58) (u := .slice ad12_7 es2.length c12_7) rfl (by rw [hn2]) (fun hF => ?_)
            refine n_l rfl (fun K36 hK36 => l_call en61 hF rfl rfl (replace_c s bb f es2 ad12_7 c12_7 hsrt (by omega) _ _ hS.fz hbb ho hlo2) (fun v36 w hR a hF => ?_))
            obtain ⟨s', H7, rfl, hle7, ho7, hid7, hpr7, hkey7, hc⟩ := hR
            replace hS := hS.call hc
            refine hK36 _ _ ?_
            refine n_q hF hS (q_move rfl) rfl (fun a hF => ?_)
            refine n_q hF hS (q_len Tryd.underlying31 rfl rfl) rfl (fun a hF => ?_)
            refine n_l rfl (fun K37 hK37 => l_store0A ty26 hF hS rfl rfl (i := 0) rfl rfl rfl rfl (fun a w hF hS => hK37 _ _ ?_))
            refine n_q hF hS (q_assign rfl) rfl (fun a hF => ?_)
            refine n_q hF hS (q_assign rfl) rfl (fun a hF => ?_)
            refine hK35 _ _ ?_
            refine c_ret ?_
            repeat (first | refine ret_then ?_ | refine ret_blk ?_)
            refine c_ret' (P := Tryd.prog) (fn := Tryd.f20) rfl hF hS (.cell0 rfl ty26 (i := 0) rfl rfl rfl (.tmp rfl (.tmp rfl .nil))) ⟨_, rfl, ?_⟩
            obtain ⟨he, hno, hk⟩ := putE_new hc22 hkd (by rw [hent]; exact hc39) (by rw [hent]; omega)
            exact ⟨s', _, by rw [he, hno, hent]; rfl, hS.le, ho7, ⟨fun _ => ⟨hid7, hpr7, by rw [hkey7, hk, hent, hk2]⟩, fun h => absurd he h⟩, hS.nil⟩
          · have hsub := hS.sub
            refine r_li rfl rfl (fun K38 hK38 => l_buildF (els := [En.c ⟨kind, digE kind bs, da, dn, dp, bs, false⟩]) Tryd.underlying31 ty48 zr48 hF hS rfl rfl rfl (fun e he => by rw [List.mem_singleton.1 he]; exact En.c_len _) rfl rfl rfl (fun a w b5 hF hle hS r12_6 => ?_))
            replace hg := hg.mono hle
            replace ho := ho.mono hle
            replace hd := hd.mono hle
            replace hlo := hlo.mono hle
            replace hbb := hbb.mono hle
            replace hbd := hbd.mono hle
            refine hK38 _ _ _ hS (fun _ h => h.forget hsub hle) ?_
            refine r_one (i := 1) (by kernel_rfl) ?_
            have hsub := hS.sub
            refine r_li rfl rfl (fun K39 hK39 => l_call en60 hF rfl rfl (Clip_c l.ea l.es.length l.ec hlo.cap _ _ hS.fz) (fun v39 w hR a hF => ?_))
            obtain ⟨rfl, hc⟩ := hR
            replace hS := hS.call0 hc
            refine hK39 _ _ _ hS (fun _ h => h) ?_
            refine r_one (i := 7) (by kernel_rfl) ?_
            refine r_li rfl rfl (fun K40 hK40 => l_appendF Tryd.underlying31 ty48 zr48 bt48 hF hS rfl rfl (hlo.rd.rd_en) (.slice Tryd.underlying31 r12_6.rd (by simp only [List.flatten_cons, List.flatten_nil, List.append_nil]; exact En.c_all1 _)) (by omega) (by omega) (by simp only [maxLen]; omega) rfl rfl (fun a w c12_7 ad12_7 Lx12_7 ho12_7 hF hS => hK40 _ _ _ hS (fun _ h => h.lose (List.sublist_append_right _ _)) ?_))
            refine r_q (i := 8) rfl (by kernel_rfl) (by kernel_rfl) rfl (by kernel_rfl) (fun _ _ _ _ h => h) hF hS (q_assign rfl) rfl (fun a hF => ?_)
            refine r_done (by kernel_rfl) ?_
            refine hK31 _ _ ?_
            refine c_seq (fun K41 hK41 => ?_)
            refine c_reg ?_
            obtain ⟨H6, hle6, hS6, hr6⟩ := ho12_7.freeze hS
            replace hS := hS6
            replace hbb := hbb.mono hle6
            replace ho := ho.mono hle6
            replace hd := hd.mono hle6
            replace hlo := hlo.mono hle6
            obtain ⟨es2, hes2⟩ : ∃ q, q = l.es ++ [(⟨kind, digE kind bs, da, dn, dp, bs, false⟩ : En)] := ⟨_, rfl⟩
            have hn2 : es2.length = l.es.length + 1 := by rw [hes2, List.length_append]; rfl
            have hk2 : es2.map En.key = l.es.map En.key ++ [(kind, digE kind bs, bs, false)] := by rw [hes2, List.map_append]; rfl
            have hrd2 : RdL H6 ad12_7 35 (enE es2) := RdL.of_en (by rw [hn2, hes2, enE_snoc]; exact hr6)
            have hen2 : EnsOK H6 es2 := fun e he => by
              rw [hes2] at he
              rcases List.mem_append.1 he with he | he
              · exact hlo.en e he
              · rw [List.mem_singleton.1 he]; exact ⟨hd, hdp, hdn⟩
            have hlo2 : LgOK H6 ⟨f, ad12_7, c12_7, es2⟩ := ⟨hrd2, hen2, by show es2.length ≤ _; omega, by show es2.length ≤ _; rw [hn2]; exact ho12_7.le⟩
            clear hes2
            refine n_q hF hS (q_move rfl) rfl (fun a hF => ?_)
            refine n_q hF hS (q_move rfl) rfl (fun a hF => ?_)
            refine n_q hF hS (q_move rfl) rfl (fun a hF => ?_)
            refine rw_ hF (s := 58) (u := .slice ad12_7 es2.length c12_7) rfl (by rw [hn2]) (fun hF => ?_)
            refine n_l rfl (fun K42 hK42 => l_call en61 hF rfl rfl (replace_c s bb f es2 ad12_7 c12_7 hsrt (by omega) _ _ hS.fz hbb ho hlo2) (fun v42 w hR a hF => ?_))
            obtain ⟨s', H7, rfl, hle7, ho7, hid7, hpr7, hkey7, hc⟩ := hR
            replace hS := hS.call hc
            refine hK42 _ _ ?_
            refine n_q hF hS (q_move rfl) rfl (fun a hF => ?_)
            refine n_q hF hS (q_len Tryd.underlying31 rfl rfl) rfl (fun a hF => ?_)
            refine n_l rfl (fun K43 hK43 => l_store0A ty26 hF hS rfl rfl (i := 0) rfl rfl rfl rfl (fun a w hF hS => hK43 _ _ ?_))
            refine n_q hF hS (q_assign rfl) rfl (fun a hF => ?_)
            refine n_q hF hS (q_assign rfl) rfl (fun a hF => ?_)
            refine hK41 _ _ ?_
            refine c_ret ?_
            repeat (first | refine ret_then ?_ | refine ret_blk ?_)
            refine c_ret' (P := Tryd.prog) (fn := Tryd.f20) rfl hF hS (.cell0 rfl ty26 (i := 0) rfl rfl rfl (.tmp rfl (.tmp rfl .nil))) ⟨_, rfl, ?_⟩
            obtain ⟨he, hno, hk⟩ := putE_new hc22 hkd (by rw [hent]; exact hc39) (by rw [hent]; omega)
            exact ⟨s', _, by rw [he, hno, hent]; rfl, hS.le, ho7, ⟨fun _ => ⟨hid7, hpr7, by rw [hkey7, hk, hent, hk2]⟩, fun h => absurd he h⟩, hS.nil⟩
end Go.Proofs.YtneokajhmonpaaaDoor
