import Derived.Test.YtneokajhmonpaaaDoorApart6
import Derived.Test.YtneokajhmonpaaaDoorChecked
/- A part of the proofs of the statements about the chartroom program (YtneokajhmonpaaaDoor): the statement itself. -/
set_option linter.unusedSimpArgs false
set_option linter.unusedVariables false
namespace Go.Proofs.YtneokajhmonpaaaDoor
open Go Go.RowKit Go.W
set_option maxRecDepth 10000
namespace T41
theorem en11 : enS Tryd.prog 11 = true := by kernel_rfl
theorem en12 : enS Tryd.prog 12 = true := by kernel_rfl
theorem en14 : enS Tryd.prog 14 = true := by kernel_rfl
theorem en20 : enS Tryd.prog 20 = true := by kernel_rfl
theorem en23 : enS Tryd.prog 23 = true := by kernel_rfl
theorem en24 : enS Tryd.prog 24 = true := by kernel_rfl
theorem fl48_0 : flS Tryd.prog 48 0 = some (0, 1) := by kernel_rfl
theorem fl48_1 : flS Tryd.prog 48 1 = some (1, 32) := by kernel_rfl
theorem fl48_2 : flS Tryd.prog 48 2 = some (33, 1) := by kernel_rfl
theorem fl48_3 : flS Tryd.prog 48 3 = some (34, 1) := by kernel_rfl
theorem fl58_0 : flS Tryd.prog 58 0 = some (0, 1) := by kernel_rfl
theorem fl58_1 : flS Tryd.prog 58 1 = some (1, 1) := by kernel_rfl
theorem fl58_2 : flS Tryd.prog 58 2 = some (2, 1) := by kernel_rfl
theorem fl58_3 : flS Tryd.prog 58 3 = some (3, 1) := by kernel_rfl
theorem gu35 : guS Tryd.prog 35 = true := by kernel_rfl
theorem ty3 : tyS Tryd.prog 3 = some (false, 1) := by kernel_rfl
theorem ty4 : tyS Tryd.prog 4 = some (false, 1) := by kernel_rfl
theorem ty5 : tyS Tryd.prog 5 = some (false, 1) := by kernel_rfl
theorem ty26 : tyS Tryd.prog 26 = some (true, 3) := by kernel_rfl
theorem ty35 : tyS Tryd.prog 35 = some (true, 32) := by kernel_rfl
theorem ty46 : tyS Tryd.prog 46 = some (false, 1) := by kernel_rfl
theorem ty48 : tyS Tryd.prog 48 = some (true, 35) := by kernel_rfl
theorem zr26 : zrS Tryd.prog 26 = some [.int .i64 0, .int .i64 0, .slice none 0 0] := by kernel_rfl
theorem mo : Tryd.prog.follows .mixedOrders = true := by kernel_rfl
end T41
open T41

set_option maxHeartbeats 3200000 in
theorem StoreApart_c (xs : List Sp) (al : Option Addr) (cl : Nat) (x : Sp) (w : World) (H : Froz) (hz : Fz H w) (hg : Gl 0 1 H) (hr : RdL H al 4 (spE xs)) (ho : SpsOK H xs) (hx : SpOK H x) (hxn : -9223372036854775808 ≤ x.no ∧ x.no ≤ 9223372036854775807) :
    CallsR Tryd.prog 5 [.slice al xs.length cl, .agg x.c.toArray] w fun v w' => v = .bool true ∧ St ⟨w, H, []⟩ H [] w' := by
  refine calls_start Tryd.func5 rfl Tryd.ntmps5 rfl (fun a hF => ?_)
  have hS := St.start w H hz
  have hd := hx.1
  have hdp := hx.2
  have hbl := hx.len
  refine c_seq (fun K1 hK1 => ?_)
  refine c_reg ?_
  refine n_l rfl (fun K2 hK2 => l_boxA hF hS rfl rfl (fun a w b1 hF hS => hK2 _ _ ?_))
  refine n_q hF hS (q_assign rfl) rfl (fun a hF => ?_)
  refine hK1 _ _ ?_
  refine c_seq (fun K3 hK3 => ?_)
  refine c_seq (fun K4 hK4 => ?_)
  refine c_reg ?_
  refine n_l rfl (fun K5 hK5 => l_call en11 hF rfl rfl (sane30_c _ _ hS.fz hg) (fun v5 w hR a hF => ?_))
  obtain ⟨rfl, hc⟩ := hR
  replace hS := hS.call0 hc
  refine hK5 _ _ ?_
  refine n_q hF hS (q_not rfl) rfl (fun a hF => ?_)
  refine hK4 _ _ ?_
  refine rw_ hF (s := 23) (u := .bool false) rfl (by rfl) (fun hF => ?_)
  refine c_false hF rfl ?_
  refine wp_skip ?_
  refine hK3 _ _ ?_
  refine c_seq (fun K6 hK6 => ?_)
  refine c_reg ?_
  refine n_q hF hS (q_move rfl) rfl (fun a hF => ?_)
  refine n_l rfl (fun K7 hK7 => l_call en12 hF rfl rfl (play_c xs al cl _ _ hS.fz hg hr ho) (fun v7 w hR a hF => ?_))
  obtain ⟨s, H1, rfl, hle1, hos, hgs, hc⟩ := hR
  replace hS := hS.call hc
  replace hg := hg.mono hle1
  replace hd := hd.mono hle1
  refine hK7 _ _ ?_
  refine n_q hF hS (q_move rfl) rfl (fun a hF => ?_)
  refine n_q hF hS (q_extract (i := 0) rfl rfl) rfl (fun a hF => ?_)
  refine n_q hF hS (q_extract (i := 1) rfl rfl) rfl (fun a hF => ?_)
  refine n_l rfl (fun K8 hK8 => l_alloc hF hS zr26 rfl (fun a w b2 hF hS => hK8 _ _ ?_))
  refine n_l rfl (fun K9 hK9 => l_store0A ty26 hF hS rfl rfl (i := 0) rfl rfl rfl rfl (fun a w hF hS => hK9 _ _ ?_))
  refine n_q hF hS (q_assign rfl) rfl (fun a hF => ?_)
  refine hK6 _ _ ?_
  refine c_seq (fun K10 hK10 => ?_)
  refine c_seq (fun K11 hK11 => ?_)
  refine c_reg ?_
  refine n_q hF hS (q_move rfl) rfl (fun a hF => ?_)
  refine n_q hF hS (q_not rfl) rfl (fun a hF => ?_)
  refine n_q hF hS (q_move rfl) rfl (fun a hF => ?_)
  refine sp hF (s := 31) rfl (fun hc31 hF => ?_) (fun hc31 hF => ?_)
  · refine n_no hF (b := true) rfl rfl rfl (fun a hF => ?_)
    refine n_no hF (b := true) rfl rfl rfl (fun a hF => ?_)
    refine n_no hF (b := true) rfl rfl rfl (fun a hF => ?_)
    refine n_no hF (b := true) rfl rfl rfl (fun a hF => ?_)
    refine n_q hF hS (q_pick (b := true) rfl rfl) rfl (fun a hF => ?_)
    refine hK11 _ _ ?_
    refine c_true hF rfl ?_
    refine c_seq (fun K12 hK12 => ?_)
    refine c_reg ?_
    refine n_q hF hS (q_assign rfl) rfl (fun a hF => ?_)
    refine hK12 _ _ ?_
    refine c_ret ?_
    repeat (first | refine ret_then ?_ | refine ret_blk ?_)
    refine c_ret' (P := Tryd.prog) (fn := Tryd.f5) rfl hF hS (.tmp rfl .nil) ⟨_, rfl, ?_⟩
    exact ⟨rfl, hS.same⟩
  · refine n_yes hF rfl ?_
    refine n_q hF hS (q_fieldAddr fl58_3 (by decide) rfl) rfl (fun a hF => ?_)
    refine n_yes hF rfl ?_
    refine n_q hF hS (q_load ty46 rfl (i := 1) rfl rfl rfl (show ldv false 1 x.c 3 = some (.slice x.da x.dn x.dp) from rfl)) rfl (fun a hF => ?_)
    refine n_yes hF rfl ?_
    refine n_q hF hS (q_len Tryd.underlying46 rfl rfl) rfl (fun a hF => ?_)
    refine n_yes hF rfl ?_
    refine n_q hF hS (q_gtr rfl rfl) rfl (fun a hF => ?_)
    refine n_q hF hS (q_pick (b := false) rfl rfl) rfl (fun a hF => ?_)
    refine hK11 _ _ ?_
    refine spd hF (s := 36) rfl (fun hc36 hF => ?_) (fun hc36 hF => ?_)
    · refine c_true hF rfl ?_
      refine c_seq (fun K13 hK13 => ?_)
      refine c_reg ?_
      refine n_q hF hS (q_assign rfl) rfl (fun a hF => ?_)
      refine hK13 _ _ ?_
      refine c_ret ?_
      repeat (first | refine ret_then ?_ | refine ret_blk ?_)
      refine c_ret' (P := Tryd.prog) (fn := Tryd.f5) rfl hF hS (.tmp rfl .nil) ⟨_, rfl, ?_⟩
      exact ⟨rfl, hS.same⟩
    · refine c_false hF rfl ?_
      refine wp_skip ?_
      refine hK10 _ _ ?_
      refine c_seq (fun K14 hK14 => ?_)
      refine c_reg ?_
      have hok : playOK (xs.map Sp.key) = true := by simpa using hc31
      replace hgs := hgs hok
      have hd100 : x.dn ≤ 100 := by omega
      obtain ⟨ks, hks⟩ : ∃ q, q = playKs (xs.map Sp.key) := ⟨_, rfl⟩
      rw [← hks] at hgs
      refine n_q hF hS (q_load0 ty26 rfl (i := 0) rfl rfl rfl) rfl (fun a hF => ?_)
      refine n_q hF hS (q_fieldAddr fl58_0 (by decide) rfl) rfl (fun a hF => ?_)
      refine n_q hF hS (q_load ty3 rfl (i := 1) rfl rfl rfl (show ldv false 1 x.c 0 = some (.int .i64 x.fo) from rfl)) rfl (fun a hF => ?_)
      refine n_q hF hS (q_fieldAddr fl58_1 (by decide) rfl) rfl (fun a hF => ?_)
      refine n_q hF hS (q_load ty3 rfl (i := 1) rfl rfl rfl (show ldv false 1 x.c 1 = some (.int .i64 x.kind) from rfl)) rfl (fun a hF => ?_)
      refine n_q hF hS (q_fieldAddr fl58_3 (by decide) rfl) rfl (fun a hF => ?_)
      refine n_q hF hS (q_load ty46 rfl (i := 1) rfl rfl rfl (show ldv false 1 x.c 3 = some (.slice x.da x.dn x.dp) from rfl)) rfl (fun a hF => ?_)
      refine n_l rfl (fun K15 hK15 => l_call en20 hF rfl rfl (Put_c s x.fo x.kind x.bs x.da x.dn x.dp (by omega) hdp _ _ hS.fz hg hgs.ok hd) (fun v15 w hR a hF => ?_))
      obtain ⟨p, H2, hv, hle2, hop, hRp, hc⟩ := hR
      rw [hgs.putE, hgs.putNo] at hv
      subst hv
      replace hS := hS.call hc
      replace hg := hg.mono hle2
      replace hgs := hgs.mono hle2
      refine hK15 _ _ ?_
      refine n_q hF hS (q_move rfl) rfl (fun a hF => ?_)
      refine n_q hF hS (q_extract (i := 0) rfl rfl) rfl (fun a hF => ?_)
      refine n_q hF hS (q_extract (i := 1) rfl rfl) rfl (fun a hF => ?_)
      refine n_q hF hS (q_extract (i := 2) rfl rfl) rfl (fun a hF => ?_)
      refine n_l rfl (fun K16 hK16 => l_alloc hF hS zr26 rfl (fun a w b3 hF hS => hK16 _ _ ?_))
      refine n_l rfl (fun K17 hK17 => l_store0A ty26 hF hS rfl rfl (i := 0) rfl rfl rfl rfl (fun a w hF hS => hK17 _ _ ?_))
      refine n_q hF hS (q_assign rfl) rfl (fun a hF => ?_)
      refine n_q hF hS (q_assign rfl) rfl (fun a hF => ?_)
      refine hK14 _ _ ?_
      refine c_seq (fun K18 hK18 => ?_)
      refine c_reg ?_
      refine n_q hF hS (q_load0 ty26 rfl (i := 1) rfl rfl rfl) rfl (fun a hF => ?_)
      refine n_q hF hS (q_fieldAddr fl58_0 (by decide) rfl) rfl (fun a hF => ?_)
      refine n_q hF hS (q_load ty3 rfl (i := 2) rfl rfl rfl (show ldv false 1 x.c 0 = some (.int .i64 x.fo) from rfl)) rfl (fun a hF => ?_)
      refine n_q hF hS (q_fieldAddr fl58_2 (by decide) rfl) rfl (fun a hF => ?_)
      refine n_q hF hS (q_load ty3 rfl (i := 2) rfl rfl rfl (show ldv false 1 x.c 2 = some (.int .i64 x.no) from rfl)) rfl (fun a hF => ?_)
      refine n_l rfl (fun K19 hK19 => l_call en23 hF rfl rfl (Delete_c s x.fo x.no _ _ hS.fz hg hgs.ok) (fun v19 w hR a hF => ?_))
      obtain ⟨d, H3, hv, hle3, hod, hRd, hc⟩ := hR
      rw [hgs.delE] at hv
      subst hv
      replace hS := hS.call hc
      replace hg := hg.mono hle3
      replace hgs := hgs.mono hle3
      replace hop := hop.mono hle3
      refine hK19 _ _ ?_
      refine n_q hF hS (q_move rfl) rfl (fun a hF => ?_)
      refine n_q hF hS (q_extract (i := 0) rfl rfl) rfl (fun a hF => ?_)
      refine n_q hF hS (q_extract (i := 1) rfl rfl) rfl (fun a hF => ?_)
      refine n_l rfl (fun K20 hK20 => l_alloc hF hS zr26 rfl (fun a w b4 hF hS => hK20 _ _ ?_))
      refine n_l rfl (fun K21 hK21 => l_store0A ty26 hF hS rfl rfl (i := 0) rfl rfl rfl rfl (fun a w hF hS => hK21 _ _ ?_))
      refine n_q hF hS (q_assign rfl) rfl (fun a hF => ?_)
      refine hK18 _ _ ?_
      refine c_seq (fun K22 hK22 => ?_)
      refine c_seq (fun K23 hK23 => ?_)
      refine c_reg ?_
      refine n_q hF hS (q_move rfl) rfl (fun a hF => ?_)
      refine hK23 _ _ ?_
      refine c_block ?_
      refine c_loopL hF [4, 12, 13, 14, 15, 16, 17, 18, 19, 20, 21, 58, 59, 60, 61, 62, 63, 64, 65, 66, 67, 68, 69, 70, 71, 72, 73, 74, 75, 76, 77, 78, 79, 80, 81, 82, 83, 84, 85, 86, 87, 88, 89, 90, 91, 92, 93, 94, 95, 96, 97, 98, 99, 100, 101, 102, 103, 104, 105, 106, 107, 108, 109, 110, 111, 112, 113, 114, 115, 116, 117, 118, 119, 120, 121, 122, 123, 124, 125, 126, 127, 128, 129, 130, 131, 132, 133, 134, 135, 136, 137, 138, 139, 140, 141, 142, 143, 144, 145, 146, 147, 148, 149, 150, 151, 152, 153, 154, 155, 156, 157, 158, 159, 160, 161, 162, 163, 164, 165, 166, 167, 168, 169, 170, 171, 172, 173, 174, 175, 176, 177, 178, 179, 180, 181, 182, 183, 184, 185, 186, 187, 188, 189, 190, 191, 192, 193, 194, 195, 196, 197, 198, 199, 200, 201, 202, 203, 204, 205, 206, 207, 208, 209, 210, 211]
        (fun k : Nat => [(58, .int .i64 (k : Int))])
        (fun _ => [⟨b4, d.c, 26⟩, ⟨b3, p.c, 26⟩, ⟨b2, s.c, 26⟩, ⟨b1, x.c, 58⟩])
        (fun k _ => k ≤ 16)
        (fun k => 16 - k) (0) ⟨rfl, trivial⟩ (hS) (Nat.zero_le _) ?_
      clear hF hS
      intro k a w H hle hF hS hJ
      replace hg := hg.mono hle
      replace hgs := hgs.mono hle
      replace hop := hop.mono hle
      replace hod := hod.mono hle
      have hl0 := Le.refl H
      try dsimp only at hF hJ hS
      refine c_seq (fun K24 hK24 => ?_)
      refine c_reg ?_
      refine n_q hF hS (q_lss rfl rfl) rfl (fun a hF => ?_)
      refine hK24 _ _ ?_
      refine c_seq (fun K25 hK25 => ?_)
      refine spd hF (s := 59) rfl (fun hc59 hF => ?_) (fun hc59 hF => ?_)
      · refine c_true hF rfl ?_
        refine wp_skip ?_
        refine hK25 _ _ ?_
        refine c_seq (fun K26 hK26 => ?_)
        refine c_block ?_
        refine c_seq (fun K27 hK27 => ?_)
        refine c_reg ?_
        refine n_q hF hS (q_move rfl) rfl (fun a hF => ?_)
        refine n_q hF hS (q_assign rfl) rfl (fun a hF => ?_)
        refine hK27 _ _ ?_
        refine c_seq (fun K28 hK28 => ?_)
        refine c_reg ?_
        have hk16 : (0 : Int) ≤ (k : Int) ∧ (k : Int) < 16 := by omega
        refine n_q hF hS (q_load0 ty26 rfl (i := 2) rfl rfl rfl) rfl (fun a hF => ?_)
        refine n_q hF hS (q_move rfl) rfl (fun a hF => ?_)
        refine n_l rfl (fun K29 hK29 => l_call en14 hF rfl rfl (Fetch_c s (k : Int) 1 _ _ hS.fz hg hgs.ok) (fun v29 w hR a hF => ?_))
        obtain ⟨es, al0, c0, H0, hv, hle, hkl, hrl, hol, hcl, hc⟩ := hR
        rw [hgs.fetchE, (fetch_one hk16).1] at hv
        subst hv
        replace hS := hS.call hc
        replace hg := hg.mono hle
        replace hgs := hgs.mono hle
        replace hop := hop.mono hle
        replace hod := hod.mono hle
        replace hl0 := hl0.mono hle
        rw [hgs.fetchL, (fetch_one hk16).2] at hkl
        refine hK29 _ _ ?_
        refine n_q hF hS (q_move rfl) rfl (fun a hF => ?_)
        refine n_q hF hS (q_extract (i := 0) rfl rfl) rfl (fun a hF => ?_)
        refine n_q hF hS (q_extract (i := 1) rfl rfl) rfl (fun a hF => ?_)
        refine n_q hF hS (q_assign rfl) rfl (fun a hF => ?_)
        refine n_q hF hS (q_assign rfl) rfl (fun a hF => ?_)
        refine hK28 _ _ ?_
        refine c_seq (fun K30 hK30 => ?_)
        refine c_seq (fun K31 hK31 => ?_)
        refine c_reg ?_
        have hkn : es.length = (entK ks k).length := by rw [← hkl, List.length_map]
        have h65 : es.length ≤ 65536 := by rw [hkn]; exact (hgs.vk.ent _).le
        refine n_q hF hS (q_move rfl) rfl (fun a hF => ?_)
        refine n_q hF hS (q_neI rfl rfl) rfl (fun a hF => ?_)
        refine hK31 _ _ ?_
        refine rw_ hF (s := 68) (u := .bool false) rfl (by rfl) (fun hF => ?_)
        refine c_false hF rfl ?_
        refine wp_skip ?_
        refine hK30 _ _ ?_
        refine c_seq (fun K32 hK32 => ?_)
        refine c_seq (fun K33 hK33 => ?_)
        refine c_reg ?_
        refine n_q hF hS (q_move rfl) rfl (fun a hF => ?_)
        refine n_q hF hS (q_eqI rfl rfl) rfl (fun a hF => ?_)
        refine hK33 _ _ ?_
        refine spd hF (s := 70) rfl (fun hc70 hF => ?_) (fun hc70 hF => ?_)
        · refine c_true hF rfl ?_
          refine c_seq (fun K34 hK34 => ?_)
          refine c_reg ?_
          have gp := hgs.put hop hRp hc70
          refine n_q hF hS (q_load0 ty26 rfl (i := 1) rfl rfl rfl) rfl (fun a hF => ?_)
          refine n_q hF hS (q_move rfl) rfl (fun a hF => ?_)
          refine n_l rfl (fun K35 hK35 => l_call en14 hF rfl rfl (Fetch_c p (k : Int) 1 _ _ hS.fz hg gp.ok) (fun v35 w hR a hF => ?_))
          obtain ⟨es2, al2, c2, H2, hv, hle2, hkl2, hrl2, hol2, hcl2, hc⟩ := hR
          rw [gp.fetchE, (fetch_one hk16).1] at hv
          subst hv
          replace hS := hS.call hc
          replace hg := hg.mono hle2
          replace hgs := hgs.mono hle2
          replace hop := hop.mono hle2
          replace hod := hod.mono hle2
          replace hl0 := hl0.mono hle2
          replace hrl := hrl.mono hle2
          replace hol := hol.mono hle2
          rw [gp.fetchL, (fetch_one hk16).2] at hkl2
          refine hK35 _ _ ?_
          refine n_q hF hS (q_move rfl) rfl (fun a hF => ?_)
          refine n_q hF hS (q_extract (i := 0) rfl rfl) rfl (fun a hF => ?_)
          refine n_q hF hS (q_extract (i := 1) rfl rfl) rfl (fun a hF => ?_)
          refine n_q hF hS (q_assign rfl) rfl (fun a hF => ?_)
          refine n_q hF hS (q_assign rfl) rfl (fun a hF => ?_)
          refine hK34 _ _ ?_
          refine c_seq (fun K36 hK36 => ?_)
          refine c_reg ?_
          obtain ⟨tl, ht1, ht2⟩ := apart_put hc70 (k : Int)
          rw [ht1, ← hkl] at hkl2
          have hn2 : es2.length = es.length + tl.length := by have := congrArg List.length hkl2; simpa using this
          refine n_q hF hS (q_move rfl) rfl (fun a hF => ?_)
          refine n_q hF hS (q_len Tryd.underlying31 rfl rfl) rfl (fun a hF => ?_)
          refine n_q hF hS (q_assign rfl) rfl (fun a hF => ?_)
          refine hK36 _ _ ?_
          refine c_seq (fun K37 hK37 => ?_)
          refine c_reg ?_
          refine n_q hF hS (q_move rfl) rfl (fun a hF => ?_)
          refine n_q hF hS (q_neI rfl rfl) rfl (fun a hF => ?_)
          refine n_q hF hS (q_move rfl) rfl (fun a hF => ?_)
          refine rw_ hF (s := 81) (u := .bool false) rfl (by rfl) (fun hF => ?_)
          refine n_yes hF rfl ?_
          refine n_q hF hS (q_move rfl) rfl (fun a hF => ?_)
          refine n_yes hF rfl ?_
          refine n_q hF hS (q_len Tryd.underlying31 rfl rfl) rfl (fun a hF => ?_)
          refine n_yes hF rfl ?_
          refine n_q hF hS (q_move rfl) rfl (fun a hF => ?_)
          refine n_yes hF rfl ?_
          refine n_q hF hS (q_lss rfl rfl) rfl (fun a hF => ?_)
          refine n_q hF hS (q_pick (b := false) rfl rfl) rfl (fun a hF => ?_)
          refine n_q hF hS (q_move rfl) rfl (fun a hF => ?_)
          refine spF hF (s := 87) rfl (by omega) (fun hF => ?_)
          refine n_yes hF rfl ?_
          refine n_q hF hS (q_move rfl) rfl (fun a hF => ?_)
          refine n_yes hF rfl ?_
          refine n_q hF hS (q_move rfl) rfl (fun a hF => ?_)
          refine n_yes hF rfl ?_
          refine n_q hF hS (q_sliceP Tryd.underlying31 ty48 rfl rfl (by omega)) rfl (fun a hF => ?_)
          refine n_yes hF rfl ?_
          refine n_q hF hS (q_move rfl) rfl (fun a hF => ?_)
          refine rw_ hF (s := 90) (u := .slice al2 (es2.take es.length).length c2) rfl (by rw [List.length_take, Nat.min_eq_left (by omega)]) (fun hF => ?_)
          refine n_yes hF rfl ?_
          refine n_l rfl (fun K38 hK38 => l_call en24 hF rfl rfl (SameEntries_c (es2.take es.length) es al2 al0 c2 c0 (by rw [List.length_take]; omega) _ _ hS.fz (rd_take hrl2 _) hrl (hol2.take _) hol) (fun v38 w hR a hF => ?_))
          obtain ⟨rfl, hc⟩ := hR
          replace hS := hS.call0 hc
          refine hK38 _ _ ?_
          refine n_yes hF rfl ?_
          refine n_q hF hS (q_not rfl) rfl (fun a hF => ?_)
          refine n_q hF hS (q_pick (b := false) rfl rfl) rfl (fun a hF => ?_)
          refine n_q hF hS (q_move rfl) rfl (fun a hF => ?_)
          refine rw_ hF (s := 95) (u := .bool false) rfl (by rw [same_take hkl2]; rfl) (fun hF => ?_)
          refine n_yes hF rfl ?_
          refine n_q hF hS (q_move rfl) rfl (fun a hF => ?_)
          refine n_yes hF rfl ?_
          refine n_q hF hS (q_len Tryd.underlying31 rfl rfl) rfl (fun a hF => ?_)
          refine n_yes hF rfl ?_
          refine n_q hF hS (q_move rfl) rfl (fun a hF => ?_)
          refine n_yes hF rfl ?_
          refine n_q hF hS (q_gtr rfl rfl) rfl (fun a hF => ?_)
          refine n_yes hF rfl ?_
          refine n_q hF hS (q_move rfl) rfl (fun a hF => ?_)
          refine spd hF (s := 100) rfl (fun hc100 hF => ?_) (fun hc100 hF => ?_)
          · refine n_yes hF rfl ?_
            refine n_q hF hS (q_move rfl) rfl (fun a hF => ?_)
            refine n_yes hF rfl ?_
            refine n_q hF hS (q_fieldAddr fl58_0 (by decide) rfl) rfl (fun a hF => ?_)
            refine n_yes hF rfl ?_
            refine n_q hF hS (q_load ty3 rfl (i := 3) rfl rfl rfl (show ldv false 1 x.c 0 = some (.int .i64 x.fo) from rfl)) rfl (fun a hF => ?_)
            refine n_yes hF rfl ?_
            refine n_q hF hS (q_neI rfl rfl) rfl (fun a hF => ?_)
            refine n_yes hF rfl ?_
            refine n_q hF hS (q_move rfl) rfl (fun a hF => ?_)
            refine rw_ hF (s := 105) (u := .bool false) rfl (by rw [decide_eq_true (show (k : Int) = x.fo from by exact (ht2 (by omega)).1)]; rfl) (fun hF => ?_)
            refine n_yes hF rfl ?_
            refine n_q hF hS (q_move rfl) rfl (fun a hF => ?_)
            refine n_yes hF rfl ?_
            refine n_q hF hS (q_len Tryd.underlying31 rfl rfl) rfl (fun a hF => ?_)
            refine n_yes hF rfl ?_
            refine n_q hF hS (q_move rfl) rfl (fun a hF => ?_)
            refine n_yes hF rfl ?_
            refine n_q hF hS (q_addI rfl rfl (by omega)) rfl (fun a hF => ?_)
            refine n_yes hF rfl ?_
            refine n_q hF hS (q_neI rfl rfl) rfl (fun a hF => ?_)
            refine n_yes hF rfl ?_
            refine n_q hF hS (q_pick (b := false) rfl rfl) rfl (fun a hF => ?_)
            refine n_yes hF rfl ?_
            refine n_q hF hS (q_move rfl) rfl (fun a hF => ?_)
            refine rw_ hF (s := 112) (u := .bool false) rfl (by rw [decide_eq_true (show (es2.length : Int) = (es.length : Int) + 1 from by have := (ht2 (by omega)).2.1; omega)]; rfl) (fun hF => ?_)
            refine n_yes hF rfl ?_
            refine n_q hF hS (q_move rfl) rfl (fun a hF => ?_)
            refine n_yes hF rfl ?_
            refine n_q hF hS (q_move rfl) rfl (fun a hF => ?_)
            refine n_yes hF rfl ?_
            refine n_q hF hS (q_addI rfl rfl (by omega)) rfl (fun a hF => ?_)
            refine n_yes hF rfl ?_
            refine n_q hF hS (q_neI rfl rfl) rfl (fun a hF => ?_)
            refine n_yes hF rfl ?_
            refine n_q hF hS (q_pick (b := false) rfl rfl) rfl (fun a hF => ?_)
            refine n_yes hF rfl ?_
            refine n_q hF hS (q_pick (b := true) rfl rfl) rfl (fun a hF => ?_)
            refine n_q hF hS (q_pick (b := false) rfl rfl) rfl (fun a hF => ?_)
            refine hK37 _ _ ?_
            refine rw_ hF (s := 119) (u := .bool false) rfl (by rw [decide_eq_true (show putNK ks x.fo x.kind x.bs = (es.length : Int) + 1 from by rw [(ht2 (by omega)).2.2, ← hkn])]; rfl) (fun hF => ?_)
            refine c_false hF rfl ?_
            refine wp_skip ?_
            refine hK32 _ _ ?_
            refine c_seq (fun K39 hK39 => ?_)
            refine c_seq (fun K40 hK40 => ?_)
            refine c_reg ?_
            refine n_q hF hS (q_move rfl) rfl (fun a hF => ?_)
            refine n_q hF hS (q_neI rfl rfl) rfl (fun a hF => ?_)
            refine hK40 _ _ ?_
            refine spn hF (s := 121) rfl (fun hc121 hF => ?_) (fun hc121 hF => ?_)
            · refine c_true hF rfl ?_
              refine c_exit ?_
              refine hK26 _ _ ?_
              refine c_reg ?_
              refine n_q hF hS (q_addI rfl rfl (by omega)) rfl (fun a hF => ?_)
              refine n_q hF hS (q_move rfl) rfl (fun a hF => ?_)
              exact ⟨k + 1, _, (by show 16 - (k + 1) < 16 - k; omega), hl0, hF.back ⟨rfl, trivial⟩ rfl (by repeat first | exact Ext.refl _ _ | refine Ext.rem' rfl ?_ | refine Ext.push rfl ?_), hS.lose (.refl _), (by show k + 1 ≤ 16; omega)⟩
            · refine c_false hF rfl ?_
              refine wp_skip ?_
              refine hK39 _ _ ?_
              refine c_seq (fun K41 hK41 => ?_)
              refine c_reg ?_
              have gd := hgs.del hod hRd hc121
              obtain ⟨hno1, ⟨eh, heh, heh4⟩, hdk⟩ := apart_del hc121
              refine n_q hF hS (q_load0 ty26 rfl (i := 0) rfl rfl rfl) rfl (fun a hF => ?_)
              refine n_q hF hS (q_move rfl) rfl (fun a hF => ?_)
              refine n_l rfl (fun K42 hK42 => l_call en14 hF rfl rfl (Fetch_c d (k : Int) 1 _ _ hS.fz hg gd.ok) (fun v42 w hR a hF => ?_))
              obtain ⟨es3, al3, c3, H3, hv, hle3, hkl3, hrl3, hol3, hcl3, hc⟩ := hR
              rw [gd.fetchE, (fetch_one hk16).1] at hv
              subst hv
              replace hS := hS.call hc
              replace hg := hg.mono hle3
              replace hgs := hgs.mono hle3
              replace hop := hop.mono hle3
              replace hod := hod.mono hle3
              replace hl0 := hl0.mono hle3
              replace hrl := hrl.mono hle3
              replace hol := hol.mono hle3
              rw [gd.fetchL, (fetch_one hk16).2] at hkl3
              refine hK42 _ _ ?_
              refine n_q hF hS (q_move rfl) rfl (fun a hF => ?_)
              refine n_q hF hS (q_extract (i := 0) rfl rfl) rfl (fun a hF => ?_)
              refine n_q hF hS (q_extract (i := 1) rfl rfl) rfl (fun a hF => ?_)
              refine n_q hF hS (q_assign rfl) rfl (fun a hF => ?_)
              refine n_q hF hS (q_assign rfl) rfl (fun a hF => ?_)
              refine hK41 _ _ ?_
              refine c_seq (fun K43 hK43 => ?_)
              refine c_seq (fun K44 hK44 => ?_)
              refine c_reg ?_
              rw [hdk] at hkl3
              have hn3 : es3.length = es.length := by
                have := congrArg List.length hkl3
                rw [List.length_map] at this
                rw [this, hkn]
                split
                · rename_i he; rw [List.length_modify, he]
                · rfl
              refine n_q hF hS (q_move rfl) rfl (fun a hF => ?_)
              refine n_q hF hS (q_neI rfl rfl) rfl (fun a hF => ?_)
              refine n_q hF hS (q_move rfl) rfl (fun a hF => ?_)
              refine rw_ hF (s := 130) (u := .bool false) rfl (by rfl) (fun hF => ?_)
              refine n_yes hF rfl ?_
              refine n_q hF hS (q_move rfl) rfl (fun a hF => ?_)
              refine n_yes hF rfl ?_
              refine n_q hF hS (q_len Tryd.underlying31 rfl rfl) rfl (fun a hF => ?_)
              refine n_yes hF rfl ?_
              refine n_q hF hS (q_move rfl) rfl (fun a hF => ?_)
              refine n_yes hF rfl ?_
              refine n_q hF hS (q_len Tryd.underlying31 rfl rfl) rfl (fun a hF => ?_)
              refine n_yes hF rfl ?_
              refine n_q hF hS (q_neI rfl rfl) rfl (fun a hF => ?_)
              refine n_q hF hS (q_pick (b := false) rfl rfl) rfl (fun a hF => ?_)
              refine hK44 _ _ ?_
              refine rw_ hF (s := 136) (u := .bool false) rfl (by rw [decide_eq_true (show (es3.length : Int) = (es.length : Int) from by omega)]; rfl) (fun hF => ?_)
              refine c_false hF rfl ?_
              refine wp_skip ?_
              refine hK43 _ _ ?_
              refine c_seq (fun K45 hK45 => ?_)
              refine c_reg ?_
              refine n_q hF hS (q_move rfl) rfl (fun a hF => ?_)
              refine n_q hF hS (q_len Tryd.underlying31 rfl rfl) rfl (fun a hF => ?_)
              refine n_q hF hS (q_move rfl) rfl (fun a hF => ?_)
              refine hK45 _ _ ?_
              refine c_block ?_
              refine c_loopL hF [4, 20, 21, 139, 140, 141, 142, 143, 144, 145, 146, 147, 148, 149, 150, 151, 152, 153, 154, 155, 156, 157, 158, 159, 160, 161, 162, 163, 164, 165, 166, 167, 168, 169, 170, 171, 172, 173, 174, 175, 176, 177, 178, 179, 180, 181, 182, 183, 184, 185, 186, 187, 188, 189, 190, 191, 192, 193, 194, 195, 196, 197, 198, 199, 200, 201, 202, 203, 204, 205, 206, 207, 208, 209, 210]
                (fun i : Nat => [(139, .int .i64 (i : Int))])
                (fun _ => [⟨b4, d.c, 26⟩, ⟨b3, p.c, 26⟩, ⟨b2, s.c, 26⟩, ⟨b1, x.c, 58⟩])
                (fun i _ => i ≤ es.length)
                (fun i => es.length - i) (0) ⟨rfl, trivial⟩ (hS) (Nat.zero_le _) ?_
              clear hF hS
              intro i a w H hle hF hS hJ
              replace hg := hg.mono hle
              replace hgs := hgs.mono hle
              replace hop := hop.mono hle
              replace hod := hod.mono hle
              replace hl0 := hl0.mono hle
              replace hrl := hrl.mono hle
              replace hol := hol.mono hle
              replace hrl3 := hrl3.mono hle
              replace hol3 := hol3.mono hle
              have hl1 := Le.refl H
              try dsimp only at hF hJ hS
              refine c_seq (fun K46 hK46 => ?_)
              refine c_reg ?_
              refine n_q hF hS (q_lss rfl rfl) rfl (fun a hF => ?_)
              refine hK46 _ _ ?_
              refine c_seq (fun K47 hK47 => ?_)
              refine spd hF (s := 140) rfl (fun hc140 hF => ?_) (fun hc140 hF => ?_)
              · refine c_true hF rfl ?_
                refine wp_skip ?_
                refine hK47 _ _ ?_
                refine c_seq (fun K48 hK48 => ?_)
                refine c_block ?_
                refine c_seq (fun K49 hK49 => ?_)
                refine c_reg ?_
                have hlt : i < es.length := by omega
                obtain ⟨e, hed⟩ : ∃ q, q = es[i] := ⟨_, rfl⟩
                have he? : es[i]? = some e := by rw [hed]; simp [hlt]
                obtain ⟨e3, he3d⟩ : ∃ q, q = es3[i]'(by omega) := ⟨_, rfl⟩
                have he3? : es3[i]? = some e3 := by rw [he3d]; simp [hn3, hlt]
                have hel : (enE es)[i]? = some e.c := by simp [enE, he?]
                have hel3 : (enE es3)[i]? = some e3.c := by simp [enE, he3?]
                have hnil := hrl.some (by simp only [enE, List.length_map]; omega)
                have hnil3 := hrl3.some (by simp only [enE, List.length_map]; omega)
                refine n_q hF hS (q_move rfl) rfl (fun a hF => ?_)
                refine n_q hF hS (q_assign rfl) rfl (fun a hF => ?_)
                refine hK49 _ _ ?_
                refine c_seq (fun K50 hK50 => ?_)
                refine c_reg ?_
                refine n_q hF hS (q_move rfl) rfl (fun a hF => ?_)
                refine n_q hF hS (q_fieldAddr fl58_0 (by decide) rfl) rfl (fun a hF => ?_)
                refine n_q hF hS (q_load ty3 rfl (i := 3) rfl rfl rfl (show ldv false 1 x.c 0 = some (.int .i64 x.fo) from rfl)) rfl (fun a hF => ?_)
                refine n_q hF hS (q_eqI rfl rfl) rfl (fun a hF => ?_)
                refine n_q hF hS (q_move rfl) rfl (fun a hF => ?_)
                refine spd hF (s := 146) rfl (fun hc146 hF => ?_) (fun hc146 hF => ?_)
                · refine n_yes hF rfl ?_
                  refine n_q hF hS (q_move rfl) rfl (fun a hF => ?_)
                  refine n_yes hF rfl ?_
                  refine n_q hF hS (q_addI rfl rfl (by omega)) rfl (fun a hF => ?_)
                  refine n_yes hF rfl ?_
                  refine n_q hF hS (q_fieldAddr fl58_2 (by decide) rfl) rfl (fun a hF => ?_)
                  refine n_yes hF rfl ?_
                  refine n_q hF hS (q_load ty3 rfl (i := 3) rfl rfl rfl (show ldv false 1 x.c 2 = some (.int .i64 x.no) from rfl)) rfl (fun a hF => ?_)
                  refine n_yes hF rfl ?_
                  refine n_q hF hS (q_eqI rfl rfl) rfl (fun a hF => ?_)
                  refine n_q hF hS (q_pick (b := true) rfl rfl) rfl (fun a hF => ?_)
                  refine n_q hF hS (q_assign rfl) rfl (fun a hF => ?_)
                  refine hK50 _ _ ?_
                  refine c_seq (fun K51 hK51 => ?_)
                  have hhit : (k : Int) = x.fo → (i : Int) + 1 = x.no → (e3.gone = true ∧ e3.dn = 0 ∧ e3.dg = e.dg ∧ e3.kind = 4) := fun hkf hi => by
                    rw [if_pos hkf, ← hkf] at hkl3
                    have hp : (x.no - 1).toNat = i := by omega
                    rw [hp] at hkl3
                    have h9 := del_hit hkl hkl3 he? he3?
                    rw [hp, ← hkf] at heh
                    have h8 : eh = e.key := Option.some.inj (heh.symm.trans (key_at hkl he?))
                    refine ⟨congrArg (·.2.2.2) h9, ?_, congrArg (·.2.1) h9, ?_⟩
                    · have hbs : e3.bs = [] := congrArg (·.2.2.1) h9
                      have h7 := dn_bs (hol3 e3 (List.mem_of_getElem? he3?)).1
                      rw [hbs] at h7; exact h7
                    · have h7 : e3.kind = e.kind := congrArg (·.1) h9
                      rw [h7]; have h6 := heh4; rw [h8] at h6; exact h6
                  refine r_start (fun L => L) [] mo hS (fun w hS => ?_)
                  refine r_q (i := 0) rfl (by kernel_rfl) (by kernel_rfl) rfl (by kernel_rfl) (fun _ _ _ _ h => h) hF hS (q_move rfl) rfl (fun a hF => ?_)
                  refine r_q (i := 1) rfl (by kernel_rfl) (by kernel_rfl) rfl (by kernel_rfl) (fun _ _ _ _ h => h) hF hS (q_not rfl) rfl (fun a hF => ?_)
                  refine r_q (i := 2) rfl (by kernel_rfl) (by kernel_rfl) rfl (by kernel_rfl) (fun _ _ _ _ h => h) hF hS (q_move rfl) rfl (fun a hF => ?_)
                  refine spn hF (s := 155) rfl (fun hc155 hF => ?_) (fun hc155 hF => ?_)
                  · refine r_qg (i := 3) rfl (by kernel_rfl) (by kernel_rfl) rfl (by kernel_rfl) (fun _ _ _ _ h => h) hF hS rfl (q_move rfl) rfl (fun a hF => ?_)
                    refine r_qg (i := 4) rfl (by kernel_rfl) (by kernel_rfl) rfl (by kernel_rfl) (fun _ _ _ _ h => h) hF hS rfl (q_move rfl) rfl (fun a hF => ?_)
                    refine r_qg (i := 5) rfl (by kernel_rfl) (by kernel_rfl) rfl (by kernel_rfl) (fun _ _ _ _ h => h) hF hS rfl (q_move rfl) rfl (fun a hF => ?_)
                    refine r_qg (i := 6) rfl (by kernel_rfl) (by kernel_rfl) rfl (by kernel_rfl) (fun _ _ _ _ h => h) hF hS rfl (q_addI rfl rfl (by omega)) rfl (fun a hF => ?_)
                    refine r_qg (i := 7) rfl (by kernel_rfl) (by kernel_rfl) rfl (by kernel_rfl) (fun _ _ _ _ h => h) hF hS rfl (q_cast (u := .slice (cutA al3 c3 i 35) 1 (c3 - i)) (q_sliceLH (l := i) (h := i + 1) Tryd.underlying31 ty48 rfl rfl rfl (by omega) (by omega)) (by rw [Nat.add_sub_cancel_left])) rfl (fun a hF => ?_)
                    refine r_qg (i := 8) rfl (by kernel_rfl) (by kernel_rfl) rfl (by kernel_rfl) (fun _ _ _ _ h => h) hF hS rfl (q_move rfl) rfl (fun a hF => ?_)
                    refine r_qg (i := 9) rfl (by kernel_rfl) (by kernel_rfl) rfl (by kernel_rfl) (fun _ _ _ _ h => h) hF hS rfl (q_move rfl) rfl (fun a hF => ?_)
                    refine r_qg (i := 10) rfl (by kernel_rfl) (by kernel_rfl) rfl (by kernel_rfl) (fun _ _ _ _ h => h) hF hS rfl (q_move rfl) rfl (fun a hF => ?_)
                    refine r_qg (i := 11) rfl (by kernel_rfl) (by kernel_rfl) rfl (by kernel_rfl) (fun _ _ _ _ h => h) hF hS rfl (q_addI rfl rfl (by omega)) rfl (fun a hF => ?_)
                    refine r_qg (i := 12) rfl (by kernel_rfl) (by kernel_rfl) rfl (by kernel_rfl) (fun _ _ _ _ h => h) hF hS rfl (q_cast (u := .slice (cutA al0 c0 i 35) 1 (c0 - i)) (q_sliceLH (l := i) (h := i + 1) Tryd.underlying31 ty48 rfl rfl rfl (by omega) (by omega)) (by rw [Nat.add_sub_cancel_left])) rfl (fun a hF => ?_)
                    refine r_one (i := 13) (by kernel_rfl) ?_
                    have hsub := hS.sub
                    refine r_lig rfl rfl hF rfl (fun K52 hK52 => l_call en24 hF rfl rfl (SameEntries_c [e3] [e] (cutA al3 c3 i 35) (cutA al0 c0 i 35) (c3 - i) (c0 - i) (by show 1 ≤ 1000000; decide) _ _ hS.fz (rd_one hrl3 he3? (by omega)) (rd_one hrl he? (by omega)) (hol3.one he3?) (hol.one he?)) (fun v52 w hR a hF => ?_))
                    obtain ⟨rfl, hc⟩ := hR
                    replace hS := hS.call0 hc
                    have hmiss : e3.key = e.key := by
                      by_cases hkf : (k : Int) = x.fo
                      · rw [if_pos hkf, ← hkf] at hkl3
                        exact del_miss hkl hkl3 he? he3? (by omega)
                      · rw [if_neg hkf] at hkl3
                        exact Option.some.inj ((key_at hkl3 he3?).symm.trans (key_at hkl he?))
                    refine hK52 _ _ _ hS (fun _ h => h) ?_
                    refine r_qg (i := 14) rfl (by kernel_rfl) (by kernel_rfl) rfl (by kernel_rfl) (fun _ _ _ _ h => h) hF hS rfl (q_not rfl) rfl (fun a hF => ?_)
                    refine r_q (i := 15) rfl (by kernel_rfl) (by kernel_rfl) rfl (by kernel_rfl) (fun _ _ _ _ h => h) hF hS (q_pick (b := true) rfl rfl) rfl (fun a hF => ?_)
                    refine r_q (i := 16) rfl (by kernel_rfl) (by kernel_rfl) rfl (by kernel_rfl) (fun _ _ _ _ h => h) hF hS (q_move rfl) rfl (fun a hF => ?_)
                    refine rw_ hF (s := 169) (u := .bool false) rfl (by rw [same_one hmiss]; rfl) (fun hF => ?_)
                    refine r_qg (i := 17) rfl (by kernel_rfl) (by kernel_rfl) rfl (by kernel_rfl) (fun _ _ _ _ h => h) hF hS rfl (q_move rfl) rfl (fun a hF => ?_)
                    refine r_qg (i := 18) rfl (by kernel_rfl) (by kernel_rfl) rfl (by kernel_rfl) (fun _ _ _ _ h => h) hF hS rfl (q_move rfl) rfl (fun a hF => ?_)
                    refine spF hF (s := 171) rfl (by exact hc155) (fun hF => ?_)
                    refine r_no (b := false) (i := 19) rfl (by kernel_rfl) (by kernel_rfl) rfl (by kernel_rfl) (fun _ _ _ _ h => h) hF hS rfl rfl rfl (fun a hF => ?_)
                    refine r_no (b := false) (i := 20) rfl (by kernel_rfl) (by kernel_rfl) rfl (by kernel_rfl) (fun _ _ _ _ h => h) hF hS rfl rfl rfl (fun a hF => ?_)
                    refine r_no (b := false) (i := 21) rfl (by kernel_rfl) (by kernel_rfl) rfl (by kernel_rfl) (fun _ _ _ _ h => h) hF hS rfl rfl rfl (fun a hF => ?_)
                    refine r_no (b := false) (i := 22) rfl (by kernel_rfl) (by kernel_rfl) rfl (by kernel_rfl) (fun _ _ _ _ h => h) hF hS rfl rfl rfl (fun a hF => ?_)
                    refine r_no (b := false) (i := 23) rfl (by kernel_rfl) (by kernel_rfl) rfl (by kernel_rfl) (fun _ _ _ _ h => h) hF hS rfl rfl rfl (fun a hF => ?_)
                    refine r_no (b := false) (i := 24) rfl (by kernel_rfl) (by kernel_rfl) rfl (by kernel_rfl) (fun _ _ _ _ h => h) hF hS rfl rfl rfl (fun a hF => ?_)
                    refine r_no (b := false) (i := 25) rfl (by kernel_rfl) (by kernel_rfl) rfl (by kernel_rfl) (fun _ _ _ _ h => h) hF hS rfl rfl rfl (fun a hF => ?_)
                    refine r_nou (i := 26) rfl (by kernel_rfl) (by kernel_rfl) rfl (by kernel_rfl) (fun _ _ _ _ h => h) hF hS rfl rfl (fun a hF => ?_)
                    refine r_nou (i := 27) rfl (by kernel_rfl) (by kernel_rfl) rfl (by kernel_rfl) (fun _ _ _ _ h => h) hF hS rfl rfl (fun a hF => ?_)
                    refine r_nou (i := 28) rfl (by kernel_rfl) (by kernel_rfl) rfl (by kernel_rfl) (fun _ _ _ _ h => h) hF hS rfl rfl (fun a hF => ?_)
                    refine r_nou (i := 29) rfl (by kernel_rfl) (by kernel_rfl) rfl (by kernel_rfl) (fun _ _ _ _ h => h) hF hS rfl rfl (fun a hF => ?_)
                    refine r_nou (i := 30) rfl (by kernel_rfl) (by kernel_rfl) rfl (by kernel_rfl) (fun _ _ _ _ h => h) hF hS rfl rfl (fun a hF => ?_)
                    refine r_nou (i := 31) rfl (by kernel_rfl) (by kernel_rfl) rfl (by kernel_rfl) (fun _ _ _ _ h => h) hF hS rfl rfl (fun a hF => ?_)
                    refine r_nou (i := 32) rfl (by kernel_rfl) (by kernel_rfl) rfl (by kernel_rfl) (fun _ _ _ _ h => h) hF hS rfl rfl (fun a hF => ?_)
                    refine r_no (b := false) (i := 33) rfl (by kernel_rfl) (by kernel_rfl) rfl (by kernel_rfl) (fun _ _ _ _ h => h) hF hS rfl rfl rfl (fun a hF => ?_)
                    refine r_no (b := false) (i := 34) rfl (by kernel_rfl) (by kernel_rfl) rfl (by kernel_rfl) (fun _ _ _ _ h => h) hF hS rfl rfl rfl (fun a hF => ?_)
                    refine r_nou (i := 35) rfl (by kernel_rfl) (by kernel_rfl) rfl (by kernel_rfl) (fun _ _ _ _ h => h) hF hS rfl rfl (fun a hF => ?_)
                    refine r_nou (i := 36) rfl (by kernel_rfl) (by kernel_rfl) rfl (by kernel_rfl) (fun _ _ _ _ h => h) hF hS rfl rfl (fun a hF => ?_)
                    refine r_nou (i := 37) rfl (by kernel_rfl) (by kernel_rfl) rfl (by kernel_rfl) (fun _ _ _ _ h => h) hF hS rfl rfl (fun a hF => ?_)
                    refine r_nou (i := 38) rfl (by kernel_rfl) (by kernel_rfl) rfl (by kernel_rfl) (fun _ _ _ _ h => h) hF hS rfl rfl (fun a hF => ?_)
                    refine r_nou (i := 39) rfl (by kernel_rfl) (by kernel_rfl) rfl (by kernel_rfl) (fun _ _ _ _ h => h) hF hS rfl rfl (fun a hF => ?_)
                    refine r_nou (i := 40) rfl (by kernel_rfl) (by kernel_rfl) rfl (by kernel_rfl) (fun _ _ _ _ h => h) hF hS rfl rfl (fun a hF => ?_)
                    refine r_nou (i := 41) rfl (by kernel_rfl) (by kernel_rfl) rfl (by kernel_rfl) (fun _ _ _ _ h => h) hF hS rfl rfl (fun a hF => ?_)
                    refine r_nou (i := 42) rfl (by kernel_rfl) (by kernel_rfl) rfl (by kernel_rfl) (fun _ _ _ _ h => h) hF hS rfl rfl (fun a hF => ?_)
                    refine r_nou (i := 43) rfl (by kernel_rfl) (by kernel_rfl) rfl (by kernel_rfl) (fun _ _ _ _ h => h) hF hS rfl rfl (fun a hF => ?_)
                    refine r_nou (i := 44) rfl (by kernel_rfl) (by kernel_rfl) rfl (by kernel_rfl) (fun _ _ _ _ h => h) hF hS rfl rfl (fun a hF => ?_)
                    refine r_nou (i := 45) rfl (by kernel_rfl) (by kernel_rfl) rfl (by kernel_rfl) (fun _ _ _ _ h => h) hF hS rfl rfl (fun a hF => ?_)
                    refine r_no (b := false) (i := 46) rfl (by kernel_rfl) (by kernel_rfl) rfl (by kernel_rfl) (fun _ _ _ _ h => h) hF hS rfl rfl rfl (fun a hF => ?_)
                    refine r_no (b := false) (i := 47) rfl (by kernel_rfl) (by kernel_rfl) rfl (by kernel_rfl) (fun _ _ _ _ h => h) hF hS rfl rfl rfl (fun a hF => ?_)
                    refine r_nou (i := 48) rfl (by kernel_rfl) (by kernel_rfl) rfl (by kernel_rfl) (fun _ _ _ _ h => h) hF hS rfl rfl (fun a hF => ?_)
                    refine r_nou (i := 49) rfl (by kernel_rfl) (by kernel_rfl) rfl (by kernel_rfl) (fun _ _ _ _ h => h) hF hS rfl rfl (fun a hF => ?_)
                    refine r_nou (i := 50) rfl (by kernel_rfl) (by kernel_rfl) rfl (by kernel_rfl) (fun _ _ _ _ h => h) hF hS rfl rfl (fun a hF => ?_)
                    refine r_nou (i := 51) rfl (by kernel_rfl) (by kernel_rfl) rfl (by kernel_rfl) (fun _ _ _ _ h => h) hF hS rfl rfl (fun a hF => ?_)
                    refine r_nou (i := 52) rfl (by kernel_rfl) (by kernel_rfl) rfl (by kernel_rfl) (fun _ _ _ _ h => h) hF hS rfl rfl (fun a hF => ?_)
                    refine r_nou (i := 53) rfl (by kernel_rfl) (by kernel_rfl) rfl (by kernel_rfl) (fun _ _ _ _ h => h) hF hS rfl rfl (fun a hF => ?_)
                    refine r_no (b := false) (i := 54) rfl (by kernel_rfl) (by kernel_rfl) rfl (by kernel_rfl) (fun _ _ _ _ h => h) hF hS rfl rfl rfl (fun a hF => ?_)
                    refine r_qg (i := 55) rfl (by kernel_rfl) (by kernel_rfl) rfl (by kernel_rfl) (fun _ _ _ _ h => h) hF hS rfl (q_pick (b := false) rfl rfl) rfl (fun a hF => ?_)
                    refine r_q (i := 56) rfl (by kernel_rfl) (by kernel_rfl) rfl (by kernel_rfl) (fun _ _ _ _ h => h) hF hS (q_pick (b := false) rfl rfl) rfl (fun a hF => ?_)
                    refine r_done (by kernel_rfl) ?_
                    refine hK51 _ _ ?_
                    refine c_false hF rfl ?_
                    refine wp_skip ?_
                    refine hK48 _ _ ?_
                    refine c_reg ?_
                    refine n_q hF hS (q_addI rfl rfl (by omega)) rfl (fun a hF => ?_)
                    refine n_q hF hS (q_move rfl) rfl (fun a hF => ?_)
                    exact ⟨i + 1, _, (by show es.length - (i + 1) < es.length - i; omega), hl1, hF.back ⟨rfl, trivial⟩ rfl (by repeat first | exact Ext.refl _ _ | refine Ext.rem' rfl ?_ | refine Ext.push rfl ?_), hS.lose (.refl _), (by show i + 1 ≤ es.length; omega)⟩
                  · refine r_no (b := false) (i := 3) rfl (by kernel_rfl) (by kernel_rfl) rfl (by kernel_rfl) (fun _ _ _ _ h => h) hF hS rfl rfl rfl (fun a hF => ?_)
                    refine r_no (b := false) (i := 4) rfl (by kernel_rfl) (by kernel_rfl) rfl (by kernel_rfl) (fun _ _ _ _ h => h) hF hS rfl rfl rfl (fun a hF => ?_)
                    refine r_no (b := false) (i := 5) rfl (by kernel_rfl) (by kernel_rfl) rfl (by kernel_rfl) (fun _ _ _ _ h => h) hF hS rfl rfl rfl (fun a hF => ?_)
                    refine r_no (b := false) (i := 6) rfl (by kernel_rfl) (by kernel_rfl) rfl (by kernel_rfl) (fun _ _ _ _ h => h) hF hS rfl rfl rfl (fun a hF => ?_)
                    refine r_no (b := false) (i := 7) rfl (by kernel_rfl) (by kernel_rfl) rfl (by kernel_rfl) (fun _ _ _ _ h => h) hF hS rfl rfl rfl (fun a hF => ?_)
                    refine r_no (b := false) (i := 8) rfl (by kernel_rfl) (by kernel_rfl) rfl (by kernel_rfl) (fun _ _ _ _ h => h) hF hS rfl rfl rfl (fun a hF => ?_)
                    refine r_no (b := false) (i := 9) rfl (by kernel_rfl) (by kernel_rfl) rfl (by kernel_rfl) (fun _ _ _ _ h => h) hF hS rfl rfl rfl (fun a hF => ?_)
                    refine r_no (b := false) (i := 10) rfl (by kernel_rfl) (by kernel_rfl) rfl (by kernel_rfl) (fun _ _ _ _ h => h) hF hS rfl rfl rfl (fun a hF => ?_)
                    refine r_no (b := false) (i := 11) rfl (by kernel_rfl) (by kernel_rfl) rfl (by kernel_rfl) (fun _ _ _ _ h => h) hF hS rfl rfl rfl (fun a hF => ?_)
                    refine r_no (b := false) (i := 12) rfl (by kernel_rfl) (by kernel_rfl) rfl (by kernel_rfl) (fun _ _ _ _ h => h) hF hS rfl rfl rfl (fun a hF => ?_)
                    refine r_no (b := false) (i := 13) rfl (by kernel_rfl) (by kernel_rfl) rfl (by kernel_rfl) (fun _ _ _ _ h => h) hF hS rfl rfl rfl (fun a hF => ?_)
                    refine r_no (b := false) (i := 14) rfl (by kernel_rfl) (by kernel_rfl) rfl (by kernel_rfl) (fun _ _ _ _ h => h) hF hS rfl rfl rfl (fun a hF => ?_)
                    refine r_q (i := 15) rfl (by kernel_rfl) (by kernel_rfl) rfl (by kernel_rfl) (fun _ _ _ _ h => h) hF hS (q_pick (b := false) rfl rfl) rfl (fun a hF => ?_)
                    refine r_q (i := 16) rfl (by kernel_rfl) (by kernel_rfl) rfl (by kernel_rfl) (fun _ _ _ _ h => h) hF hS (q_move rfl) rfl (fun a hF => ?_)
                    refine r_qg (i := 17) rfl (by kernel_rfl) (by kernel_rfl) rfl (by kernel_rfl) (fun _ _ _ _ h => h) hF hS rfl (q_move rfl) rfl (fun a hF => ?_)
                    refine r_qg (i := 18) rfl (by kernel_rfl) (by kernel_rfl) rfl (by kernel_rfl) (fun _ _ _ _ h => h) hF hS rfl (q_move rfl) rfl (fun a hF => ?_)
                    refine spT hF (s := 171) rfl (by exact hc155) (fun hF => ?_)
                    refine r_qg (i := 19) rfl (by kernel_rfl) (by kernel_rfl) rfl (by kernel_rfl) (fun _ _ _ _ h => h) hF hS rfl (q_move rfl) rfl (fun a hF => ?_)
                    refine r_qg (i := 20) rfl (by kernel_rfl) (by kernel_rfl) rfl (by kernel_rfl) (fun _ _ _ _ h => h) hF hS rfl (q_move rfl) rfl (fun a hF => ?_)
                    refine r_qg (i := 21) rfl (by kernel_rfl) (by kernel_rfl) rfl (by kernel_rfl) (fun _ _ _ _ h => h) hF hS rfl (q_indexAddrS Tryd.underlying31 ty48 rfl rfl (by omega) (hnil3)) rfl (fun a hF => ?_)
                    refine r_qg (i := 22) rfl (by kernel_rfl) (by kernel_rfl) rfl (by kernel_rfl) (fun _ _ _ _ h => h) hF hS rfl (q_fieldAddrE fl48_3 (by decide) rfl) rfl (fun a hF => ?_)
                    refine r_qg (i := 23) rfl (by kernel_rfl) (by kernel_rfl) rfl (by kernel_rfl) (fun _ _ _ _ h => h) hF hS rfl (q_loadL (off := 34) (i := i) (v := .bool e3.gone) ty4 rfl hrl3 hel3 (by decide) rfl (En.ld_go e3)) rfl (fun a hF => ?_)
                    refine r_qg (i := 24) rfl (by kernel_rfl) (by kernel_rfl) rfl (by kernel_rfl) (fun _ _ _ _ h => h) hF hS rfl (q_not rfl) rfl (fun a hF => ?_)
                    refine r_qg (i := 25) rfl (by kernel_rfl) (by kernel_rfl) rfl (by kernel_rfl) (fun _ _ _ _ h => h) hF hS rfl (q_move rfl) rfl (fun a hF => ?_)
                    refine rw_ hF (s := 178) (u := .bool false) rfl (by rw [(hhit hc146 hc155).1]; rfl) (fun hF => ?_)
                    refine r_qg (i := 26) rfl (by kernel_rfl) (by kernel_rfl) rfl (by kernel_rfl) (fun _ _ _ _ h => h) hF hS rfl (q_move rfl) rfl (fun a hF => ?_)
                    refine r_qg (i := 27) rfl (by kernel_rfl) (by kernel_rfl) rfl (by kernel_rfl) (fun _ _ _ _ h => h) hF hS rfl (q_move rfl) rfl (fun a hF => ?_)
                    refine r_qg (i := 28) rfl (by kernel_rfl) (by kernel_rfl) rfl (by kernel_rfl) (fun _ _ _ _ h => h) hF hS rfl (q_indexAddrS Tryd.underlying31 ty48 rfl rfl (by omega) (hnil3)) rfl (fun a hF => ?_)
                    refine r_qg (i := 29) rfl (by kernel_rfl) (by kernel_rfl) rfl (by kernel_rfl) (fun _ _ _ _ h => h) hF hS rfl (q_fieldAddrE fl48_2 (by decide) rfl) rfl (fun a hF => ?_)
                    refine r_qg (i := 30) rfl (by kernel_rfl) (by kernel_rfl) rfl (by kernel_rfl) (fun _ _ _ _ h => h) hF hS rfl (q_loadL (off := 33) (i := i) (v := .slice e3.da e3.dn e3.dp) ty46 rfl hrl3 hel3 (by decide) rfl (En.ld_da e3)) rfl (fun a hF => ?_)
                    refine r_qg (i := 31) rfl (by kernel_rfl) (by kernel_rfl) rfl (by kernel_rfl) (fun _ _ _ _ h => h) hF hS rfl (q_len Tryd.underlying46 rfl rfl) rfl (fun a hF => ?_)
                    refine r_qg (i := 32) rfl (by kernel_rfl) (by kernel_rfl) rfl (by kernel_rfl) (fun _ _ _ _ h => h) hF hS rfl (q_gtr rfl rfl) rfl (fun a hF => ?_)
                    refine r_qg (i := 33) rfl (by kernel_rfl) (by kernel_rfl) rfl (by kernel_rfl) (fun _ _ _ _ h => h) hF hS rfl (q_pick (b := false) rfl rfl) rfl (fun a hF => ?_)
                    refine r_qg (i := 34) rfl (by kernel_rfl) (by kernel_rfl) rfl (by kernel_rfl) (fun _ _ _ _ h => h) hF hS rfl (q_move rfl) rfl (fun a hF => ?_)
                    refine spF hF (s := 187) rfl (by rw [(hhit hc146 hc155).2.1]; decide) (fun hF => ?_)
                    refine r_qg (i := 35) rfl (by kernel_rfl) (by kernel_rfl) rfl (by kernel_rfl) (fun _ _ _ _ h => h) hF hS rfl (q_move rfl) rfl (fun a hF => ?_)
                    refine r_qg (i := 36) rfl (by kernel_rfl) (by kernel_rfl) rfl (by kernel_rfl) (fun _ _ _ _ h => h) hF hS rfl (q_move rfl) rfl (fun a hF => ?_)
                    refine r_qg (i := 37) rfl (by kernel_rfl) (by kernel_rfl) rfl (by kernel_rfl) (fun _ _ _ _ h => h) hF hS rfl (q_indexAddrS Tryd.underlying31 ty48 rfl rfl (by omega) (hnil3)) rfl (fun a hF => ?_)
                    refine r_qg (i := 38) rfl (by kernel_rfl) (by kernel_rfl) rfl (by kernel_rfl) (fun _ _ _ _ h => h) hF hS rfl (q_fieldAddrE fl48_1 (by decide) rfl) rfl (fun a hF => ?_)
                    refine r_qg (i := 39) rfl (by kernel_rfl) (by kernel_rfl) rfl (by kernel_rfl) (fun _ _ _ _ h => h) hF hS rfl (q_loadL (off := 1) (i := i) (v := .agg (dc e3.dg).toArray) ty35 rfl hrl3 hel3 (by decide) rfl (En.ld_dg e3)) rfl (fun a hF => ?_)
                    refine r_qg (i := 40) rfl (by kernel_rfl) (by kernel_rfl) rfl (by kernel_rfl) (fun _ _ _ _ h => h) hF hS rfl (q_move rfl) rfl (fun a hF => ?_)
                    refine r_qg (i := 41) rfl (by kernel_rfl) (by kernel_rfl) rfl (by kernel_rfl) (fun _ _ _ _ h => h) hF hS rfl (q_move rfl) rfl (fun a hF => ?_)
                    refine r_qg (i := 42) rfl (by kernel_rfl) (by kernel_rfl) rfl (by kernel_rfl) (fun _ _ _ _ h => h) hF hS rfl (q_indexAddrS Tryd.underlying31 ty48 rfl rfl (by omega) (hnil)) rfl (fun a hF => ?_)
                    refine r_qg (i := 43) rfl (by kernel_rfl) (by kernel_rfl) rfl (by kernel_rfl) (fun _ _ _ _ h => h) hF hS rfl (q_fieldAddrE fl48_1 (by decide) rfl) rfl (fun a hF => ?_)
                    refine r_qg (i := 44) rfl (by kernel_rfl) (by kernel_rfl) rfl (by kernel_rfl) (fun _ _ _ _ h => h) hF hS rfl (q_loadL (off := 1) (i := i) (v := .agg (dc e.dg).toArray) ty35 rfl hrl hel (by decide) rfl (En.ld_dg e)) rfl (fun a hF => ?_)
                    refine r_qg (i := 45) rfl (by kernel_rfl) (by kernel_rfl) rfl (by kernel_rfl) (fun _ _ _ _ h => h) hF hS rfl (q_neDg gu35 Tryd.underlying35 Tryd.underlying5 ty5 rfl rfl) rfl (fun a hF => ?_)
                    refine r_qg (i := 46) rfl (by kernel_rfl) (by kernel_rfl) rfl (by kernel_rfl) (fun _ _ _ _ h => h) hF hS rfl (q_pick (b := false) rfl rfl) rfl (fun a hF => ?_)
                    refine r_qg (i := 47) rfl (by kernel_rfl) (by kernel_rfl) rfl (by kernel_rfl) (fun _ _ _ _ h => h) hF hS rfl (q_move rfl) rfl (fun a hF => ?_)
                    refine rw_ hF (s := 200) (u := .bool false) rfl (by rw [decide_eq_true (show e3.dg = e.dg from by exact (hhit hc146 hc155).2.2.1)]; rfl) (fun hF => ?_)
                    refine r_qg (i := 48) rfl (by kernel_rfl) (by kernel_rfl) rfl (by kernel_rfl) (fun _ _ _ _ h => h) hF hS rfl (q_move rfl) rfl (fun a hF => ?_)
                    refine r_qg (i := 49) rfl (by kernel_rfl) (by kernel_rfl) rfl (by kernel_rfl) (fun _ _ _ _ h => h) hF hS rfl (q_move rfl) rfl (fun a hF => ?_)
                    refine r_qg (i := 50) rfl (by kernel_rfl) (by kernel_rfl) rfl (by kernel_rfl) (fun _ _ _ _ h => h) hF hS rfl (q_indexAddrS Tryd.underlying31 ty48 rfl rfl (by omega) (hnil3)) rfl (fun a hF => ?_)
                    refine r_qg (i := 51) rfl (by kernel_rfl) (by kernel_rfl) rfl (by kernel_rfl) (fun _ _ _ _ h => h) hF hS rfl (q_fieldAddrE fl48_0 (by decide) rfl) rfl (fun a hF => ?_)
                    refine r_qg (i := 52) rfl (by kernel_rfl) (by kernel_rfl) rfl (by kernel_rfl) (fun _ _ _ _ h => h) hF hS rfl (q_loadL (off := 0) (i := i) (v := .int .i64 e3.kind) ty3 rfl hrl3 hel3 (by decide) rfl rfl) rfl (fun a hF => ?_)
                    refine r_qg (i := 53) rfl (by kernel_rfl) (by kernel_rfl) rfl (by kernel_rfl) (fun _ _ _ _ h => h) hF hS rfl (q_neI rfl rfl) rfl (fun a hF => ?_)
                    refine r_qg (i := 54) rfl (by kernel_rfl) (by kernel_rfl) rfl (by kernel_rfl) (fun _ _ _ _ h => h) hF hS rfl (q_pick (b := false) rfl rfl) rfl (fun a hF => ?_)
                    refine r_qg (i := 55) rfl (by kernel_rfl) (by kernel_rfl) rfl (by kernel_rfl) (fun _ _ _ _ h => h) hF hS rfl (q_pick (b := true) rfl rfl) rfl (fun a hF => ?_)
                    refine r_q (i := 56) rfl (by kernel_rfl) (by kernel_rfl) rfl (by kernel_rfl) (fun _ _ _ _ h => h) hF hS (q_pick (b := false) rfl rfl) rfl (fun a hF => ?_)
                    refine r_done (by kernel_rfl) ?_
                    refine hK51 _ _ ?_
                    refine rw_ hF (s := 209) (u := .bool false) rfl (by rw [decide_eq_true (show e3.kind = 4 from by exact (hhit hc146 hc155).2.2.2)]; rfl) (fun hF => ?_)
                    refine c_false hF rfl ?_
                    refine wp_skip ?_
                    refine hK48 _ _ ?_
                    refine c_reg ?_
                    refine n_q hF hS (q_addI rfl rfl (by omega)) rfl (fun a hF => ?_)
                    refine n_q hF hS (q_move rfl) rfl (fun a hF => ?_)
                    exact ⟨i + 1, _, (by show es.length - (i + 1) < es.length - i; omega), hl1, hF.back ⟨rfl, trivial⟩ rfl (by repeat first | exact Ext.refl _ _ | refine Ext.rem' rfl ?_ | refine Ext.push rfl ?_), hS.lose (.refl _), (by show i + 1 ≤ es.length; omega)⟩
                · refine n_no hF (b := false) rfl rfl rfl (fun a hF => ?_)
                  refine n_no hF (b := false) rfl rfl rfl (fun a hF => ?_)
                  refine n_no hF (b := false) rfl rfl rfl (fun a hF => ?_)
                  refine n_no hF (b := false) rfl rfl rfl (fun a hF => ?_)
                  refine n_no hF (b := false) rfl rfl rfl (fun a hF => ?_)
                  refine n_q hF hS (q_pick (b := false) rfl rfl) rfl (fun a hF => ?_)
                  refine n_q hF hS (q_assign rfl) rfl (fun a hF => ?_)
                  refine hK50 _ _ ?_
                  refine c_seq (fun K53 hK53 => ?_)
                  have hhit : (k : Int) = x.fo → (i : Int) + 1 = x.no → (e3.gone = true ∧ e3.dn = 0 ∧ e3.dg = e.dg ∧ e3.kind = 4) := fun hkf hi => by
                    rw [if_pos hkf, ← hkf] at hkl3
                    have hp : (x.no - 1).toNat = i := by omega
                    rw [hp] at hkl3
                    have h9 := del_hit hkl hkl3 he? he3?
                    rw [hp, ← hkf] at heh
                    have h8 : eh = e.key := Option.some.inj (heh.symm.trans (key_at hkl he?))
                    refine ⟨congrArg (·.2.2.2) h9, ?_, congrArg (·.2.1) h9, ?_⟩
                    · have hbs : e3.bs = [] := congrArg (·.2.2.1) h9
                      have h7 := dn_bs (hol3 e3 (List.mem_of_getElem? he3?)).1
                      rw [hbs] at h7; exact h7
                    · have h7 : e3.kind = e.kind := congrArg (·.1) h9
                      rw [h7]; have h6 := heh4; rw [h8] at h6; exact h6
                  refine r_start (fun L => L) [] mo hS (fun w hS => ?_)
                  refine r_q (i := 0) rfl (by kernel_rfl) (by kernel_rfl) rfl (by kernel_rfl) (fun _ _ _ _ h => h) hF hS (q_move rfl) rfl (fun a hF => ?_)
                  refine r_q (i := 1) rfl (by kernel_rfl) (by kernel_rfl) rfl (by kernel_rfl) (fun _ _ _ _ h => h) hF hS (q_not rfl) rfl (fun a hF => ?_)
                  refine r_q (i := 2) rfl (by kernel_rfl) (by kernel_rfl) rfl (by kernel_rfl) (fun _ _ _ _ h => h) hF hS (q_move rfl) rfl (fun a hF => ?_)
                  refine r_qg (i := 3) rfl (by kernel_rfl) (by kernel_rfl) rfl (by kernel_rfl) (fun _ _ _ _ h => h) hF hS rfl (q_move rfl) rfl (fun a hF => ?_)
                  refine r_qg (i := 4) rfl (by kernel_rfl) (by kernel_rfl) rfl (by kernel_rfl) (fun _ _ _ _ h => h) hF hS rfl (q_move rfl) rfl (fun a hF => ?_)
                  refine r_qg (i := 5) rfl (by kernel_rfl) (by kernel_rfl) rfl (by kernel_rfl) (fun _ _ _ _ h => h) hF hS rfl (q_move rfl) rfl (fun a hF => ?_)
                  refine r_qg (i := 6) rfl (by kernel_rfl) (by kernel_rfl) rfl (by kernel_rfl) (fun _ _ _ _ h => h) hF hS rfl (q_addI rfl rfl (by omega)) rfl (fun a hF => ?_)
                  refine r_qg (i := 7) rfl (by kernel_rfl) (by kernel_rfl) rfl (by kernel_rfl) (fun _ _ _ _ h => h) hF hS rfl (q_cast (u := .slice (cutA al3 c3 i 35) 1 (c3 - i)) (q_sliceLH (l := i) (h := i + 1) Tryd.underlying31 ty48 rfl rfl rfl (by omega) (by omega)) (by rw [Nat.add_sub_cancel_left])) rfl (fun a hF => ?_)
                  refine r_qg (i := 8) rfl (by kernel_rfl) (by kernel_rfl) rfl (by kernel_rfl) (fun _ _ _ _ h => h) hF hS rfl (q_move rfl) rfl (fun a hF => ?_)
                  refine r_qg (i := 9) rfl (by kernel_rfl) (by kernel_rfl) rfl (by kernel_rfl) (fun _ _ _ _ h => h) hF hS rfl (q_move rfl) rfl (fun a hF => ?_)
                  refine r_qg (i := 10) rfl (by kernel_rfl) (by kernel_rfl) rfl (by kernel_rfl) (fun _ _ _ _ h => h) hF hS rfl (q_move rfl) rfl (fun a hF => ?_)
                  refine r_qg (i := 11) rfl (by kernel_rfl) (by kernel_rfl) rfl (by kernel_rfl) (fun _ _ _ _ h => h) hF hS rfl (q_addI rfl rfl (by omega)) rfl (fun a hF => ?_)
                  refine r_qg (i := 12) rfl (by kernel_rfl) (by kernel_rfl) rfl (by kernel_rfl) (fun _ _ _ _ h => h) hF hS rfl (q_cast (u := .slice (cutA al0 c0 i 35) 1 (c0 - i)) (q_sliceLH (l := i) (h := i + 1) Tryd.underlying31 ty48 rfl rfl rfl (by omega) (by omega)) (by rw [Nat.add_sub_cancel_left])) rfl (fun a hF => ?_)
                  refine r_one (i := 13) (by kernel_rfl) ?_
                  have hsub := hS.sub
                  refine r_lig rfl rfl hF rfl (fun K54 hK54 => l_call en24 hF rfl rfl (SameEntries_c [e3] [e] (cutA al3 c3 i 35) (cutA al0 c0 i 35) (c3 - i) (c0 - i) (by show 1 ≤ 1000000; decide) _ _ hS.fz (rd_one hrl3 he3? (by omega)) (rd_one hrl he? (by omega)) (hol3.one he3?) (hol.one he?)) (fun v54 w hR a hF => ?_))
                  obtain ⟨rfl, hc⟩ := hR
                  replace hS := hS.call0 hc
                  have hmiss : e3.key = e.key := by
                    by_cases hkf : (k : Int) = x.fo
                    · rw [if_pos hkf, ← hkf] at hkl3
                      exact del_miss hkl hkl3 he? he3? (by omega)
                    · rw [if_neg hkf] at hkl3
                      exact Option.some.inj ((key_at hkl3 he3?).symm.trans (key_at hkl he?))
                  refine hK54 _ _ _ hS (fun _ h => h) ?_
                  refine r_qg (i := 14) rfl (by kernel_rfl) (by kernel_rfl) rfl (by kernel_rfl) (fun _ _ _ _ h => h) hF hS rfl (q_not rfl) rfl (fun a hF => ?_)
                  refine r_q (i := 15) rfl (by kernel_rfl) (by kernel_rfl) rfl (by kernel_rfl) (fun _ _ _ _ h => h) hF hS (q_pick (b := true) rfl rfl) rfl (fun a hF => ?_)
                  refine r_q (i := 16) rfl (by kernel_rfl) (by kernel_rfl) rfl (by kernel_rfl) (fun _ _ _ _ h => h) hF hS (q_move rfl) rfl (fun a hF => ?_)
                  refine rw_ hF (s := 169) (u := .bool false) rfl (by rw [same_one hmiss]; rfl) (fun hF => ?_)
                  refine r_qg (i := 17) rfl (by kernel_rfl) (by kernel_rfl) rfl (by kernel_rfl) (fun _ _ _ _ h => h) hF hS rfl (q_move rfl) rfl (fun a hF => ?_)
                  refine r_qg (i := 18) rfl (by kernel_rfl) (by kernel_rfl) rfl (by kernel_rfl) (fun _ _ _ _ h => h) hF hS rfl (q_move rfl) rfl (fun a hF => ?_)
                  refine r_no (b := false) (i := 19) rfl (by kernel_rfl) (by kernel_rfl) rfl (by kernel_rfl) (fun _ _ _ _ h => h) hF hS rfl rfl rfl (fun a hF => ?_)
                  refine r_no (b := false) (i := 20) rfl (by kernel_rfl) (by kernel_rfl) rfl (by kernel_rfl) (fun _ _ _ _ h => h) hF hS rfl rfl rfl (fun a hF => ?_)
                  refine r_no (b := false) (i := 21) rfl (by kernel_rfl) (by kernel_rfl) rfl (by kernel_rfl) (fun _ _ _ _ h => h) hF hS rfl rfl rfl (fun a hF => ?_)
                  refine r_no (b := false) (i := 22) rfl (by kernel_rfl) (by kernel_rfl) rfl (by kernel_rfl) (fun _ _ _ _ h => h) hF hS rfl rfl rfl (fun a hF => ?_)
                  refine r_no (b := false) (i := 23) rfl (by kernel_rfl) (by kernel_rfl) rfl (by kernel_rfl) (fun _ _ _ _ h => h) hF hS rfl rfl rfl (fun a hF => ?_)
                  refine r_no (b := false) (i := 24) rfl (by kernel_rfl) (by kernel_rfl) rfl (by kernel_rfl) (fun _ _ _ _ h => h) hF hS rfl rfl rfl (fun a hF => ?_)
                  refine r_no (b := false) (i := 25) rfl (by kernel_rfl) (by kernel_rfl) rfl (by kernel_rfl) (fun _ _ _ _ h => h) hF hS rfl rfl rfl (fun a hF => ?_)
                  refine r_nou (i := 26) rfl (by kernel_rfl) (by kernel_rfl) rfl (by kernel_rfl) (fun _ _ _ _ h => h) hF hS rfl rfl (fun a hF => ?_)
                  refine r_nou (i := 27) rfl (by kernel_rfl) (by kernel_rfl) rfl (by kernel_rfl) (fun _ _ _ _ h => h) hF hS rfl rfl (fun a hF => ?_)
                  refine r_nou (i := 28) rfl (by kernel_rfl) (by kernel_rfl) rfl (by kernel_rfl) (fun _ _ _ _ h => h) hF hS rfl rfl (fun a hF => ?_)
                  refine r_nou (i := 29) rfl (by kernel_rfl) (by kernel_rfl) rfl (by kernel_rfl) (fun _ _ _ _ h => h) hF hS rfl rfl (fun a hF => ?_)
                  refine r_nou (i := 30) rfl (by kernel_rfl) (by kernel_rfl) rfl (by kernel_rfl) (fun _ _ _ _ h => h) hF hS rfl rfl (fun a hF => ?_)
                  refine r_nou (i := 31) rfl (by kernel_rfl) (by kernel_rfl) rfl (by kernel_rfl) (fun _ _ _ _ h => h) hF hS rfl rfl (fun a hF => ?_)
                  refine r_nou (i := 32) rfl (by kernel_rfl) (by kernel_rfl) rfl (by kernel_rfl) (fun _ _ _ _ h => h) hF hS rfl rfl (fun a hF => ?_)
                  refine r_no (b := false) (i := 33) rfl (by kernel_rfl) (by kernel_rfl) rfl (by kernel_rfl) (fun _ _ _ _ h => h) hF hS rfl rfl rfl (fun a hF => ?_)
                  refine r_no (b := false) (i := 34) rfl (by kernel_rfl) (by kernel_rfl) rfl (by kernel_rfl) (fun _ _ _ _ h => h) hF hS rfl rfl rfl (fun a hF => ?_)
                  refine r_nou (i := 35) rfl (by kernel_rfl) (by kernel_rfl) rfl (by kernel_rfl) (fun _ _ _ _ h => h) hF hS rfl rfl (fun a hF => ?_)
                  refine r_nou (i := 36) rfl (by kernel_rfl) (by kernel_rfl) rfl (by kernel_rfl) (fun _ _ _ _ h => h) hF hS rfl rfl (fun a hF => ?_)
                  refine r_nou (i := 37) rfl (by kernel_rfl) (by kernel_rfl) rfl (by kernel_rfl) (fun _ _ _ _ h => h) hF hS rfl rfl (fun a hF => ?_)
                  refine r_nou (i := 38) rfl (by kernel_rfl) (by kernel_rfl) rfl (by kernel_rfl) (fun _ _ _ _ h => h) hF hS rfl rfl (fun a hF => ?_)
                  refine r_nou (i := 39) rfl (by kernel_rfl) (by kernel_rfl) rfl (by kernel_rfl) (fun _ _ _ _ h => h) hF hS rfl rfl (fun a hF => ?_)
                  refine r_nou (i := 40) rfl (by kernel_rfl) (by kernel_rfl) rfl (by kernel_rfl) (fun _ _ _ _ h => h) hF hS rfl rfl (fun a hF => ?_)
                  refine r_nou (i := 41) rfl (by kernel_rfl) (by kernel_rfl) rfl (by kernel_rfl) (fun _ _ _ _ h => h) hF hS rfl rfl (fun a hF => ?_)
                  refine r_nou (i := 42) rfl (by kernel_rfl) (by kernel_rfl) rfl (by kernel_rfl) (fun _ _ _ _ h => h) hF hS rfl rfl (fun a hF => ?_)
                  refine r_nou (i := 43) rfl (by kernel_rfl) (by kernel_rfl) rfl (by kernel_rfl) (fun _ _ _ _ h => h) hF hS rfl rfl (fun a hF => ?_)
                  refine r_nou (i := 44) rfl (by kernel_rfl) (by kernel_rfl) rfl (by kernel_rfl) (fun _ _ _ _ h => h) hF hS rfl rfl (fun a hF => ?_)
                  refine r_nou (i := 45) rfl (by kernel_rfl) (by kernel_rfl) rfl (by kernel_rfl) (fun _ _ _ _ h => h) hF hS rfl rfl (fun a hF => ?_)
                  refine r_no (b := false) (i := 46) rfl (by kernel_rfl) (by kernel_rfl) rfl (by kernel_rfl) (fun _ _ _ _ h => h) hF hS rfl rfl rfl (fun a hF => ?_)
                  refine r_no (b := false) (i := 47) rfl (by kernel_rfl) (by kernel_rfl) rfl (by kernel_rfl) (fun _ _ _ _ h => h) hF hS rfl rfl rfl (fun a hF => ?_)
                  refine r_nou (i := 48) rfl (by kernel_rfl) (by kernel_rfl) rfl (by kernel_rfl) (fun _ _ _ _ h => h) hF hS rfl rfl (fun a hF => ?_)
                  refine r_nou (i := 49) rfl (by kernel_rfl) (by kernel_rfl) rfl (by kernel_rfl) (fun _ _ _ _ h => h) hF hS rfl rfl (fun a hF => ?_)
                  refine r_nou (i := 50) rfl (by kernel_rfl) (by kernel_rfl) rfl (by kernel_rfl) (fun _ _ _ _ h => h) hF hS rfl rfl (fun a hF => ?_)
                  refine r_nou (i := 51) rfl (by kernel_rfl) (by kernel_rfl) rfl (by kernel_rfl) (fun _ _ _ _ h => h) hF hS rfl rfl (fun a hF => ?_)
                  refine r_nou (i := 52) rfl (by kernel_rfl) (by kernel_rfl) rfl (by kernel_rfl) (fun _ _ _ _ h => h) hF hS rfl rfl (fun a hF => ?_)
                  refine r_nou (i := 53) rfl (by kernel_rfl) (by kernel_rfl) rfl (by kernel_rfl) (fun _ _ _ _ h => h) hF hS rfl rfl (fun a hF => ?_)
                  refine r_no (b := false) (i := 54) rfl (by kernel_rfl) (by kernel_rfl) rfl (by kernel_rfl) (fun _ _ _ _ h => h) hF hS rfl rfl rfl (fun a hF => ?_)
                  refine r_qg (i := 55) rfl (by kernel_rfl) (by kernel_rfl) rfl (by kernel_rfl) (fun _ _ _ _ h => h) hF hS rfl (q_pick (b := false) rfl rfl) rfl (fun a hF => ?_)
                  refine r_q (i := 56) rfl (by kernel_rfl) (by kernel_rfl) rfl (by kernel_rfl) (fun _ _ _ _ h => h) hF hS (q_pick (b := false) rfl rfl) rfl (fun a hF => ?_)
                  refine r_done (by kernel_rfl) ?_
                  refine hK53 _ _ ?_
                  refine c_false hF rfl ?_
                  refine wp_skip ?_
                  refine hK48 _ _ ?_
                  refine c_reg ?_
                  refine n_q hF hS (q_addI rfl rfl (by omega)) rfl (fun a hF => ?_)
                  refine n_q hF hS (q_move rfl) rfl (fun a hF => ?_)
                  exact ⟨i + 1, _, (by show es.length - (i + 1) < es.length - i; omega), hl1, hF.back ⟨rfl, trivial⟩ rfl (by repeat first | exact Ext.refl _ _ | refine Ext.rem' rfl ?_ | refine Ext.push rfl ?_), hS.lose (.refl _), (by show i + 1 ≤ es.length; omega)⟩
              · refine c_false hF rfl ?_
                refine c_exit ?_
                refine hK26 _ _ ?_
                refine c_reg ?_
                refine n_q hF hS (q_addI rfl rfl (by omega)) rfl (fun a hF => ?_)
                refine n_q hF hS (q_move rfl) rfl (fun a hF => ?_)
                exact ⟨k + 1, _, (by show 16 - (k + 1) < 16 - k; omega), hl0, hF.back ⟨rfl, trivial⟩ rfl (by repeat first | exact Ext.refl _ _ | refine Ext.rem' rfl ?_ | refine Ext.push rfl ?_), hS.lose (.refl _), (by show k + 1 ≤ 16; omega)⟩
          · refine n_no hF (b := false) rfl rfl rfl (fun a hF => ?_)
            refine n_no hF (b := false) rfl rfl rfl (fun a hF => ?_)
            refine n_no hF (b := false) rfl rfl rfl (fun a hF => ?_)
            refine n_no hF (b := false) rfl rfl rfl (fun a hF => ?_)
            refine n_no hF (b := false) rfl rfl rfl (fun a hF => ?_)
            refine n_nou hF rfl rfl (fun a hF => ?_)
            refine n_nou hF rfl rfl (fun a hF => ?_)
            refine n_nou hF rfl rfl (fun a hF => ?_)
            refine n_nou hF rfl rfl (fun a hF => ?_)
            refine n_nou hF rfl rfl (fun a hF => ?_)
            refine n_no hF (b := false) rfl rfl rfl (fun a hF => ?_)
            refine n_no hF (b := false) rfl rfl rfl (fun a hF => ?_)
            refine n_nou hF rfl rfl (fun a hF => ?_)
            refine n_nou hF rfl rfl (fun a hF => ?_)
            refine n_nou hF rfl rfl (fun a hF => ?_)
            refine n_nou hF rfl rfl (fun a hF => ?_)
            refine n_no hF (b := false) rfl rfl rfl (fun a hF => ?_)
            refine n_yes hF rfl ?_
            refine n_q hF hS (q_pick (b := false) rfl rfl) rfl (fun a hF => ?_)
            refine n_q hF hS (q_pick (b := false) rfl rfl) rfl (fun a hF => ?_)
            refine hK37 _ _ ?_
            refine c_false hF rfl ?_
            refine wp_skip ?_
            refine hK32 _ _ ?_
            refine c_seq (fun K55 hK55 => ?_)
            refine c_seq (fun K56 hK56 => ?_)
            refine c_reg ?_
            refine n_q hF hS (q_move rfl) rfl (fun a hF => ?_)
            refine n_q hF hS (q_neI rfl rfl) rfl (fun a hF => ?_)
            refine hK56 _ _ ?_
            refine spn hF (s := 121) rfl (fun hc121 hF => ?_) (fun hc121 hF => ?_)
            · refine c_true hF rfl ?_
              refine c_exit ?_
              refine hK26 _ _ ?_
              refine c_reg ?_
              refine n_q hF hS (q_addI rfl rfl (by omega)) rfl (fun a hF => ?_)
              refine n_q hF hS (q_move rfl) rfl (fun a hF => ?_)
              exact ⟨k + 1, _, (by show 16 - (k + 1) < 16 - k; omega), hl0, hF.back ⟨rfl, trivial⟩ rfl (by repeat first | exact Ext.refl _ _ | refine Ext.rem' rfl ?_ | refine Ext.push rfl ?_), hS.lose (.refl _), (by show k + 1 ≤ 16; omega)⟩
            · refine c_false hF rfl ?_
              refine wp_skip ?_
              refine hK55 _ _ ?_
              refine c_seq (fun K57 hK57 => ?_)
              refine c_reg ?_
              have gd := hgs.del hod hRd hc121
              obtain ⟨hno1, ⟨eh, heh, heh4⟩, hdk⟩ := apart_del hc121
              refine n_q hF hS (q_load0 ty26 rfl (i := 0) rfl rfl rfl) rfl (fun a hF => ?_)
              refine n_q hF hS (q_move rfl) rfl (fun a hF => ?_)
              refine n_l rfl (fun K58 hK58 => l_call en14 hF rfl rfl (Fetch_c d (k : Int) 1 _ _ hS.fz hg gd.ok) (fun v58 w hR a hF => ?_))
              obtain ⟨es3, al3, c3, H3, hv, hle3, hkl3, hrl3, hol3, hcl3, hc⟩ := hR
              rw [gd.fetchE, (fetch_one hk16).1] at hv
              subst hv
              replace hS := hS.call hc
              replace hg := hg.mono hle3
              replace hgs := hgs.mono hle3
              replace hop := hop.mono hle3
              replace hod := hod.mono hle3
              replace hl0 := hl0.mono hle3
              replace hrl := hrl.mono hle3
              replace hol := hol.mono hle3
              rw [gd.fetchL, (fetch_one hk16).2] at hkl3
              refine hK58 _ _ ?_
              refine n_q hF hS (q_move rfl) rfl (fun a hF => ?_)
              refine n_q hF hS (q_extract (i := 0) rfl rfl) rfl (fun a hF => ?_)
              refine n_q hF hS (q_extract (i := 1) rfl rfl) rfl (fun a hF => ?_)
              refine n_q hF hS (q_assign rfl) rfl (fun a hF => ?_)
              refine n_q hF hS (q_assign rfl) rfl (fun a hF => ?_)
              refine hK57 _ _ ?_
              refine c_seq (fun K59 hK59 => ?_)
              refine c_seq (fun K60 hK60 => ?_)
              refine c_reg ?_
              rw [hdk] at hkl3
              have hn3 : es3.length = es.length := by
                have := congrArg List.length hkl3
                rw [List.length_map] at this
                rw [this, hkn]
                split
                · rename_i he; rw [List.length_modify, he]
                · rfl
              refine n_q hF hS (q_move rfl) rfl (fun a hF => ?_)
              refine n_q hF hS (q_neI rfl rfl) rfl (fun a hF => ?_)
              refine n_q hF hS (q_move rfl) rfl (fun a hF => ?_)
              refine rw_ hF (s := 130) (u := .bool false) rfl (by rfl) (fun hF => ?_)
              refine n_yes hF rfl ?_
              refine n_q hF hS (q_move rfl) rfl (fun a hF => ?_)
              refine n_yes hF rfl ?_
              refine n_q hF hS (q_len Tryd.underlying31 rfl rfl) rfl (fun a hF => ?_)
              refine n_yes hF rfl ?_
              refine n_q hF hS (q_move rfl) rfl (fun a hF => ?_)
              refine n_yes hF rfl ?_
              refine n_q hF hS (q_len Tryd.underlying31 rfl rfl) rfl (fun a hF => ?_)
              refine n_yes hF rfl ?_
              refine n_q hF hS (q_neI rfl rfl) rfl (fun a hF => ?_)
              refine n_q hF hS (q_pick (b := false) rfl rfl) rfl (fun a hF => ?_)
              refine hK60 _ _ ?_
              refine rw_ hF (s := 136) (u := .bool false) rfl (by rw [decide_eq_true (show (es3.length : Int) = (es.length : Int) from by omega)]; rfl) (fun hF => ?_)
              refine c_false hF rfl ?_
              refine wp_skip ?_
              refine hK59 _ _ ?_
              refine c_seq (fun K61 hK61 => ?_)
              refine c_reg ?_
              refine n_q hF hS (q_move rfl) rfl (fun a hF => ?_)
              refine n_q hF hS (q_len Tryd.underlying31 rfl rfl) rfl (fun a hF => ?_)
              refine n_q hF hS (q_move rfl) rfl (fun a hF => ?_)
              refine hK61 _ _ ?_
              refine c_block ?_
              refine c_loopL hF [4, 20, 21, 139, 140, 141, 142, 143, 144, 145, 146, 147, 148, 149, 150, 151, 152, 153, 154, 155, 156, 157, 158, 159, 160, 161, 162, 163, 164, 165, 166, 167, 168, 169, 170, 171, 172, 173, 174, 175, 176, 177, 178, 179, 180, 181, 182, 183, 184, 185, 186, 187, 188, 189, 190, 191, 192, 193, 194, 195, 196, 197, 198, 199, 200, 201, 202, 203, 204, 205, 206, 207, 208, 209, 210]
                (fun i : Nat => [(139, .int .i64 (i : Int))])
                (fun _ => [⟨b4, d.c, 26⟩, ⟨b3, p.c, 26⟩, ⟨b2, s.c, 26⟩, ⟨b1, x.c, 58⟩])
                (fun i _ => i ≤ es.length)
                (fun i => es.length - i) (0) ⟨rfl, trivial⟩ (hS) (Nat.zero_le _) ?_
              clear hF hS
              intro i a w H hle hF hS hJ
              replace hg := hg.mono hle
              replace hgs := hgs.mono hle
              replace hop := hop.mono hle
              replace hod := hod.mono hle
              replace hl0 := hl0.mono hle
              replace hrl := hrl.mono hle
              replace hol := hol.mono hle
              replace hrl3 := hrl3.mono hle
              replace hol3 := hol3.mono hle
              have hl2 := Le.refl H
              try dsimp only at hF hJ hS
              refine c_seq (fun K62 hK62 => ?_)
              refine c_reg ?_
              refine n_q hF hS (q_lss rfl rfl) rfl (fun a hF => ?_)
              refine hK62 _ _ ?_
              refine c_seq (fun K63 hK63 => ?_)
              refine spd hF (s := 140) rfl (fun hc140 hF => ?_) (fun hc140 hF => ?_)
              · refine c_true hF rfl ?_
                refine wp_skip ?_
                refine hK63 _ _ ?_
                refine c_seq (fun K64 hK64 => ?_)
                refine c_block ?_
                refine c_seq (fun K65 hK65 => ?_)
                refine c_reg ?_
                have hlt : i < es.length := by omega
                obtain ⟨e, hed⟩ : ∃ q, q = es[i] := ⟨_, rfl⟩
                have he? : es[i]? = some e := by rw [hed]; simp [hlt]
                obtain ⟨e3, he3d⟩ : ∃ q, q = es3[i]'(by omega) := ⟨_, rfl⟩
                have he3? : es3[i]? = some e3 := by rw [he3d]; simp [hn3, hlt]
                have hel : (enE es)[i]? = some e.c := by simp [enE, he?]
                have hel3 : (enE es3)[i]? = some e3.c := by simp [enE, he3?]
                have hnil := hrl.some (by simp only [enE, List.length_map]; omega)
                have hnil3 := hrl3.some (by simp only [enE, List.length_map]; omega)
                refine n_q hF hS (q_move rfl) rfl (fun a hF => ?_)
                refine n_q hF hS (q_assign rfl) rfl (fun a hF => ?_)
                refine hK65 _ _ ?_
                refine c_seq (fun K66 hK66 => ?_)
                refine c_reg ?_
                refine n_q hF hS (q_move rfl) rfl (fun a hF => ?_)
                refine n_q hF hS (q_fieldAddr fl58_0 (by decide) rfl) rfl (fun a hF => ?_)
                refine n_q hF hS (q_load ty3 rfl (i := 3) rfl rfl rfl (show ldv false 1 x.c 0 = some (.int .i64 x.fo) from rfl)) rfl (fun a hF => ?_)
                refine n_q hF hS (q_eqI rfl rfl) rfl (fun a hF => ?_)
                refine n_q hF hS (q_move rfl) rfl (fun a hF => ?_)
                refine spd hF (s := 146) rfl (fun hc146 hF => ?_) (fun hc146 hF => ?_)
                · refine n_yes hF rfl ?_
                  refine n_q hF hS (q_move rfl) rfl (fun a hF => ?_)
                  refine n_yes hF rfl ?_
                  refine n_q hF hS (q_addI rfl rfl (by omega)) rfl (fun a hF => ?_)
                  refine n_yes hF rfl ?_
                  refine n_q hF hS (q_fieldAddr fl58_2 (by decide) rfl) rfl (fun a hF => ?_)
                  refine n_yes hF rfl ?_
                  refine n_q hF hS (q_load ty3 rfl (i := 3) rfl rfl rfl (show ldv false 1 x.c 2 = some (.int .i64 x.no) from rfl)) rfl (fun a hF => ?_)
                  refine n_yes hF rfl ?_
                  refine n_q hF hS (q_eqI rfl rfl) rfl (fun a hF => ?_)
                  refine n_q hF hS (q_pick (b := true) rfl rfl) rfl (fun a hF => ?_)
                  refine n_q hF hS (q_assign rfl) rfl (fun a hF => ?_)
                  refine hK66 _ _ ?_
                  refine c_seq (fun K67 hK67 => ?_)
                  have hhit : (k : Int) = x.fo → (i : Int) + 1 = x.no → (e3.gone = true ∧ e3.dn = 0 ∧ e3.dg = e.dg ∧ e3.kind = 4) := fun hkf hi => by
                    rw [if_pos hkf, ← hkf] at hkl3
                    have hp : (x.no - 1).toNat = i := by omega
                    rw [hp] at hkl3
                    have h9 := del_hit hkl hkl3 he? he3?
                    rw [hp, ← hkf] at heh
                    have h8 : eh = e.key := Option.some.inj (heh.symm.trans (key_at hkl he?))
                    refine ⟨congrArg (·.2.2.2) h9, ?_, congrArg (·.2.1) h9, ?_⟩
                    · have hbs : e3.bs = [] := congrArg (·.2.2.1) h9
                      have h7 := dn_bs (hol3 e3 (List.mem_of_getElem? he3?)).1
                      rw [hbs] at h7; exact h7
                    · have h7 : e3.kind = e.kind := congrArg (·.1) h9
                      rw [h7]; have h6 := heh4; rw [h8] at h6; exact h6
                  refine r_start (fun L => L) [] mo hS (fun w hS => ?_)
                  refine r_q (i := 0) rfl (by kernel_rfl) (by kernel_rfl) rfl (by kernel_rfl) (fun _ _ _ _ h => h) hF hS (q_move rfl) rfl (fun a hF => ?_)
                  refine r_q (i := 1) rfl (by kernel_rfl) (by kernel_rfl) rfl (by kernel_rfl) (fun _ _ _ _ h => h) hF hS (q_not rfl) rfl (fun a hF => ?_)
                  refine r_q (i := 2) rfl (by kernel_rfl) (by kernel_rfl) rfl (by kernel_rfl) (fun _ _ _ _ h => h) hF hS (q_move rfl) rfl (fun a hF => ?_)
                  refine spn hF (s := 155) rfl (fun hc155 hF => ?_) (fun hc155 hF => ?_)
                  · refine r_qg (i := 3) rfl (by kernel_rfl) (by kernel_rfl) rfl (by kernel_rfl) (fun _ _ _ _ h => h) hF hS rfl (q_move rfl) rfl (fun a hF => ?_)
                    refine r_qg (i := 4) rfl (by kernel_rfl) (by kernel_rfl) rfl (by kernel_rfl) (fun _ _ _ _ h => h) hF hS rfl (q_move rfl) rfl (fun a hF => ?_)
                    refine r_qg (i := 5) rfl (by kernel_rfl) (by kernel_rfl) rfl (by kernel_rfl) (fun _ _ _ _ h => h) hF hS rfl (q_move rfl) rfl (fun a hF => ?_)
                    refine r_qg (i := 6) rfl (by kernel_rfl) (by kernel_rfl) rfl (by kernel_rfl) (fun _ _ _ _ h => h) hF hS rfl (q_addI rfl rfl (by omega)) rfl (fun a hF => ?_)
                    refine r_qg (i := 7) rfl (by kernel_rfl) (by kernel_rfl) rfl (by kernel_rfl) (fun _ _ _ _ h => h) hF hS rfl (q_cast (u := .slice (cutA al3 c3 i 35) 1 (c3 - i)) (q_sliceLH (l := i) (h := i + 1) Tryd.underlying31 ty48 rfl rfl rfl (by omega) (by omega)) (by rw [Nat.add_sub_cancel_left])) rfl (fun a hF => ?_)
                    refine r_qg (i := 8) rfl (by kernel_rfl) (by kernel_rfl) rfl (by kernel_rfl) (fun _ _ _ _ h => h) hF hS rfl (q_move rfl) rfl (fun a hF => ?_)
                    refine r_qg (i := 9) rfl (by kernel_rfl) (by kernel_rfl) rfl (by kernel_rfl) (fun _ _ _ _ h => h) hF hS rfl (q_move rfl) rfl (fun a hF => ?_)
                    refine r_qg (i := 10) rfl (by kernel_rfl) (by kernel_rfl) rfl (by kernel_rfl) (fun _ _ _ _ h => h) hF hS rfl (q_move rfl) rfl (fun a hF => ?_)
                    refine r_qg (i := 11) rfl (by kernel_rfl) (by kernel_rfl) rfl (by kernel_rfl) (fun _ _ _ _ h => h) hF hS rfl (q_addI rfl rfl (by omega)) rfl (fun a hF => ?_)
                    refine r_qg (i := 12) rfl (by kernel_rfl) (by kernel_rfl) rfl (by kernel_rfl) (fun _ _ _ _ h => h) hF hS rfl (q_cast (u := .slice (cutA al0 c0 i 35) 1 (c0 - i)) (q_sliceLH (l := i) (h := i + 1) Tryd.underlying31 ty48 rfl rfl rfl (by omega) (by omega)) (by rw [Nat.add_sub_cancel_left])) rfl (fun a hF => ?_)
                    refine r_one (i := 13) (by kernel_rfl) ?_
                    have hsub := hS.sub
                    refine r_lig rfl rfl hF rfl (fun K68 hK68 => l_call en24 hF rfl rfl (SameEntries_c [e3] [e] (cutA al3 c3 i 35) (cutA al0 c0 i 35) (c3 - i) (c0 - i) (by show 1 ≤ 1000000; decide) _ _ hS.fz (rd_one hrl3 he3? (by omega)) (rd_one hrl he? (by omega)) (hol3.one he3?) (hol.one he?)) (fun v68 w hR a hF => ?_))
                    obtain ⟨rfl, hc⟩ := hR
                    replace hS := hS.call0 hc
                    have hmiss : e3.key = e.key := by
                      by_cases hkf : (k : Int) = x.fo
                      · rw [if_pos hkf, ← hkf] at hkl3
                        exact del_miss hkl hkl3 he? he3? (by omega)
                      · rw [if_neg hkf] at hkl3
                        exact Option.some.inj ((key_at hkl3 he3?).symm.trans (key_at hkl he?))
                    refine hK68 _ _ _ hS (fun _ h => h) ?_
                    refine r_qg (i := 14) rfl (by kernel_rfl) (by kernel_rfl) rfl (by kernel_rfl) (fun _ _ _ _ h => h) hF hS rfl (q_not rfl) rfl (fun a hF => ?_)
                    refine r_q (i := 15) rfl (by kernel_rfl) (by kernel_rfl) rfl (by kernel_rfl) (fun _ _ _ _ h => h) hF hS (q_pick (b := true) rfl rfl) rfl (fun a hF => ?_)
                    refine r_q (i := 16) rfl (by kernel_rfl) (by kernel_rfl) rfl (by kernel_rfl) (fun _ _ _ _ h => h) hF hS (q_move rfl) rfl (fun a hF => ?_)
                    refine rw_ hF (s := 169) (u := .bool false) rfl (by rw [same_one hmiss]; rfl) (fun hF => ?_)
                    refine r_qg (i := 17) rfl (by kernel_rfl) (by kernel_rfl) rfl (by kernel_rfl) (fun _ _ _ _ h => h) hF hS rfl (q_move rfl) rfl (fun a hF => ?_)
                    refine r_qg (i := 18) rfl (by kernel_rfl) (by kernel_rfl) rfl (by kernel_rfl) (fun _ _ _ _ h => h) hF hS rfl (q_move rfl) rfl (fun a hF => ?_)
                    refine spF hF (s := 171) rfl (by exact hc155) (fun hF => ?_)
                    refine r_no (b := false) (i := 19) rfl (by kernel_rfl) (by kernel_rfl) rfl (by kernel_rfl) (fun _ _ _ _ h => h) hF hS rfl rfl rfl (fun a hF => ?_)
                    refine r_no (b := false) (i := 20) rfl (by kernel_rfl) (by kernel_rfl) rfl (by kernel_rfl) (fun _ _ _ _ h => h) hF hS rfl rfl rfl (fun a hF => ?_)
                    refine r_no (b := false) (i := 21) rfl (by kernel_rfl) (by kernel_rfl) rfl (by kernel_rfl) (fun _ _ _ _ h => h) hF hS rfl rfl rfl (fun a hF => ?_)
                    refine r_no (b := false) (i := 22) rfl (by kernel_rfl) (by kernel_rfl) rfl (by kernel_rfl) (fun _ _ _ _ h => h) hF hS rfl rfl rfl (fun a hF => ?_)
                    refine r_no (b := false) (i := 23) rfl (by kernel_rfl) (by kernel_rfl) rfl (by kernel_rfl) (fun _ _ _ _ h => h) hF hS rfl rfl rfl (fun a hF => ?_)
                    refine r_no (b := false) (i := 24) rfl (by kernel_rfl) (by kernel_rfl) rfl (by kernel_rfl) (fun _ _ _ _ h => h) hF hS rfl rfl rfl (fun a hF => ?_)
                    refine r_no (b := false) (i := 25) rfl (by kernel_rfl) (by kernel_rfl) rfl (by kernel_rfl) (fun _ _ _ _ h => h) hF hS rfl rfl rfl (fun a hF => ?_)
                    refine r_nou (i := 26) rfl (by kernel_rfl) (by kernel_rfl) rfl (by kernel_rfl) (fun _ _ _ _ h => h) hF hS rfl rfl (fun a hF => ?_)
                    refine r_nou (i := 27) rfl (by kernel_rfl) (by kernel_rfl) rfl (by kernel_rfl) (fun _ _ _ _ h => h) hF hS rfl rfl (fun a hF => ?_)
                    refine r_nou (i := 28) rfl (by kernel_rfl) (by kernel_rfl) rfl (by kernel_rfl) (fun _ _ _ _ h => h) hF hS rfl rfl (fun a hF => ?_)
                    refine r_nou (i := 29) rfl (by kernel_rfl) (by kernel_rfl) rfl (by kernel_rfl) (fun _ _ _ _ h => h) hF hS rfl rfl (fun a hF => ?_)
                    refine r_nou (i := 30) rfl (by kernel_rfl) (by kernel_rfl) rfl (by kernel_rfl) (fun _ _ _ _ h => h) hF hS rfl rfl (fun a hF => ?_)
                    refine r_nou (i := 31) rfl (by kernel_rfl) (by kernel_rfl) rfl (by kernel_rfl) (fun _ _ _ _ h => h) hF hS rfl rfl (fun a hF => ?_)
                    refine r_nou (i := 32) rfl (by kernel_rfl) (by kernel_rfl) rfl (by kernel_rfl) (fun _ _ _ _ h => h) hF hS rfl rfl (fun a hF => ?_)
                    refine r_no (b := false) (i := 33) rfl (by kernel_rfl) (by kernel_rfl) rfl (by kernel_rfl) (fun _ _ _ _ h => h) hF hS rfl rfl rfl (fun a hF => ?_)
                    refine r_no (b := false) (i := 34) rfl (by kernel_rfl) (by kernel_rfl) rfl (by kernel_rfl) (fun _ _ _ _ h => h) hF hS rfl rfl rfl (fun a hF => ?_)
                    refine r_nou (i := 35) rfl (by kernel_rfl) (by kernel_rfl) rfl (by kernel_rfl) (fun _ _ _ _ h => h) hF hS rfl rfl (fun a hF => ?_)
                    refine r_nou (i := 36) rfl (by kernel_rfl) (by kernel_rfl) rfl (by kernel_rfl) (fun _ _ _ _ h => h) hF hS rfl rfl (fun a hF => ?_)
                    refine r_nou (i := 37) rfl (by kernel_rfl) (by kernel_rfl) rfl (by kernel_rfl) (fun _ _ _ _ h => h) hF hS rfl rfl (fun a hF => ?_)
                    refine r_nou (i := 38) rfl (by kernel_rfl) (by kernel_rfl) rfl (by kernel_rfl) (fun _ _ _ _ h => h) hF hS rfl rfl (fun a hF => ?_)
                    refine r_nou (i := 39) rfl (by kernel_rfl) (by kernel_rfl) rfl (by kernel_rfl) (fun _ _ _ _ h => h) hF hS rfl rfl (fun a hF => ?_)
                    refine r_nou (i := 40) rfl (by kernel_rfl) (by kernel_rfl) rfl (by kernel_rfl) (fun _ _ _ _ h => h) hF hS rfl rfl (fun a hF => ?_)
                    refine r_nou (i := 41) rfl (by kernel_rfl) (by kernel_rfl) rfl (by kernel_rfl) (fun _ _ _ _ h => h) hF hS rfl rfl (fun a hF => ?_)
                    refine r_nou (i := 42) rfl (by kernel_rfl) (by kernel_rfl) rfl (by kernel_rfl) (fun _ _ _ _ h => h) hF hS rfl rfl (fun a hF => ?_)
                    refine r_nou (i := 43) rfl (by kernel_rfl) (by kernel_rfl) rfl (by kernel_rfl) (fun _ _ _ _ h => h) hF hS rfl rfl (fun a hF => ?_)
                    refine r_nou (i := 44) rfl (by kernel_rfl) (by kernel_rfl) rfl (by kernel_rfl) (fun _ _ _ _ h => h) hF hS rfl rfl (fun a hF => ?_)
                    refine r_nou (i := 45) rfl (by kernel_rfl) (by kernel_rfl) rfl (by kernel_rfl) (fun _ _ _ _ h => h) hF hS rfl rfl (fun a hF => ?_)
                    refine r_no (b := false) (i := 46) rfl (by kernel_rfl) (by kernel_rfl) rfl (by kernel_rfl) (fun _ _ _ _ h => h) hF hS rfl rfl rfl (fun a hF => ?_)
                    refine r_no (b := false) (i := 47) rfl (by kernel_rfl) (by kernel_rfl) rfl (by kernel_rfl) (fun _ _ _ _ h => h) hF hS rfl rfl rfl (fun a hF => ?_)
                    refine r_nou (i := 48) rfl (by kernel_rfl) (by kernel_rfl) rfl (by kernel_rfl) (fun _ _ _ _ h => h) hF hS rfl rfl (fun a hF => ?_)
                    refine r_nou (i := 49) rfl (by kernel_rfl) (by kernel_rfl) rfl (by kernel_rfl) (fun _ _ _ _ h => h) hF hS rfl rfl (fun a hF => ?_)
                    refine r_nou (i := 50) rfl (by kernel_rfl) (by kernel_rfl) rfl (by kernel_rfl) (fun _ _ _ _ h => h) hF hS rfl rfl (fun a hF => ?_)
                    refine r_nou (i := 51) rfl (by kernel_rfl) (by kernel_rfl) rfl (by kernel_rfl) (fun _ _ _ _ h => h) hF hS rfl rfl (fun a hF => ?_)
                    refine r_nou (i := 52) rfl (by kernel_rfl) (by kernel_rfl) rfl (by kernel_rfl) (fun _ _ _ _ h => h) hF hS rfl rfl (fun a hF => ?_)
                    refine r_nou (i := 53) rfl (by kernel_rfl) (by kernel_rfl) rfl (by kernel_rfl) (fun _ _ _ _ h => h) hF hS rfl rfl (fun a hF => ?_)
                    refine r_no (b := false) (i := 54) rfl (by kernel_rfl) (by kernel_rfl) rfl (by kernel_rfl) (fun _ _ _ _ h => h) hF hS rfl rfl rfl (fun a hF => ?_)
                    refine r_qg (i := 55) rfl (by kernel_rfl) (by kernel_rfl) rfl (by kernel_rfl) (fun _ _ _ _ h => h) hF hS rfl (q_pick (b := false) rfl rfl) rfl (fun a hF => ?_)
                    refine r_q (i := 56) rfl (by kernel_rfl) (by kernel_rfl) rfl (by kernel_rfl) (fun _ _ _ _ h => h) hF hS (q_pick (b := false) rfl rfl) rfl (fun a hF => ?_)
                    refine r_done (by kernel_rfl) ?_
                    refine hK67 _ _ ?_
                    refine c_false hF rfl ?_
                    refine wp_skip ?_
                    refine hK64 _ _ ?_
                    refine c_reg ?_
                    refine n_q hF hS (q_addI rfl rfl (by omega)) rfl (fun a hF => ?_)
                    refine n_q hF hS (q_move rfl) rfl (fun a hF => ?_)
                    exact ⟨i + 1, _, (by show es.length - (i + 1) < es.length - i; omega), hl2, hF.back ⟨rfl, trivial⟩ rfl (by repeat first | exact Ext.refl _ _ | refine Ext.rem' rfl ?_ | refine Ext.push rfl ?_), hS.lose (.refl _), (by show i + 1 ≤ es.length; omega)⟩
                  · refine r_no (b := false) (i := 3) rfl (by kernel_rfl) (by kernel_rfl) rfl (by kernel_rfl) (fun _ _ _ _ h => h) hF hS rfl rfl rfl (fun a hF => ?_)
                    refine r_no (b := false) (i := 4) rfl (by kernel_rfl) (by kernel_rfl) rfl (by kernel_rfl) (fun _ _ _ _ h => h) hF hS rfl rfl rfl (fun a hF => ?_)
                    refine r_no (b := false) (i := 5) rfl (by kernel_rfl) (by kernel_rfl) rfl (by kernel_rfl) (fun _ _ _ _ h => h) hF hS rfl rfl rfl (fun a hF => ?_)
                    refine r_no (b := false) (i := 6) rfl (by kernel_rfl) (by kernel_rfl) rfl (by kernel_rfl) (fun _ _ _ _ h => h) hF hS rfl rfl rfl (fun a hF => ?_)
                    refine r_no (b := false) (i := 7) rfl (by kernel_rfl) (by kernel_rfl) rfl (by kernel_rfl) (fun _ _ _ _ h => h) hF hS rfl rfl rfl (fun a hF => ?_)
                    refine r_no (b := false) (i := 8) rfl (by kernel_rfl) (by kernel_rfl) rfl (by kernel_rfl) (fun _ _ _ _ h => h) hF hS rfl rfl rfl (fun a hF => ?_)
                    refine r_no (b := false) (i := 9) rfl (by kernel_rfl) (by kernel_rfl) rfl (by kernel_rfl) (fun _ _ _ _ h => h) hF hS rfl rfl rfl (fun a hF => ?_)
                    refine r_no (b := false) (i := 10) rfl (by kernel_rfl) (by kernel_rfl) rfl (by kernel_rfl) (fun _ _ _ _ h => h) hF hS rfl rfl rfl (fun a hF => ?_)
                    refine r_no (b := false) (i := 11) rfl (by kernel_rfl) (by kernel_rfl) rfl (by kernel_rfl) (fun _ _ _ _ h => h) hF hS rfl rfl rfl (fun a hF => ?_)
                    refine r_no (b := false) (i := 12) rfl (by kernel_rfl) (by kernel_rfl) rfl (by kernel_rfl) (fun _ _ _ _ h => h) hF hS rfl rfl rfl (fun a hF => ?_)
                    refine r_no (b := false) (i := 13) rfl (by kernel_rfl) (by kernel_rfl) rfl (by kernel_rfl) (fun _ _ _ _ h => h) hF hS rfl rfl rfl (fun a hF => ?_)
                    refine r_no (b := false) (i := 14) rfl (by kernel_rfl) (by kernel_rfl) rfl (by kernel_rfl) (fun _ _ _ _ h => h) hF hS rfl rfl rfl (fun a hF => ?_)
                    refine r_q (i := 15) rfl (by kernel_rfl) (by kernel_rfl) rfl (by kernel_rfl) (fun _ _ _ _ h => h) hF hS (q_pick (b := false) rfl rfl) rfl (fun a hF => ?_)
                    refine r_q (i := 16) rfl (by kernel_rfl) (by kernel_rfl) rfl (by kernel_rfl) (fun _ _ _ _ h => h) hF hS (q_move rfl) rfl (fun a hF => ?_)
                    refine r_qg (i := 17) rfl (by kernel_rfl) (by kernel_rfl) rfl (by kernel_rfl) (fun _ _ _ _ h => h) hF hS rfl (q_move rfl) rfl (fun a hF => ?_)
                    refine r_qg (i := 18) rfl (by kernel_rfl) (by kernel_rfl) rfl (by kernel_rfl) (fun _ _ _ _ h => h) hF hS rfl (q_move rfl) rfl (fun a hF => ?_)
                    refine spT hF (s := 171) rfl (by exact hc155) (fun hF => ?_)
                    refine r_qg (i := 19) rfl (by kernel_rfl) (by kernel_rfl) rfl (by kernel_rfl) (fun _ _ _ _ h => h) hF hS rfl (q_move rfl) rfl (fun a hF => ?_)
                    refine r_qg (i := 20) rfl (by kernel_rfl) (by kernel_rfl) rfl (by kernel_rfl) (fun _ _ _ _ h => h) hF hS rfl (q_move rfl) rfl (fun a hF => ?_)
                    refine r_qg (i := 21) rfl (by kernel_rfl) (by kernel_rfl) rfl (by kernel_rfl) (fun _ _ _ _ h => h) hF hS rfl (q_indexAddrS Tryd.underlying31 ty48 rfl rfl (by omega) (hnil3)) rfl (fun a hF => ?_)
                    refine r_qg (i := 22) rfl (by kernel_rfl) (by kernel_rfl) rfl (by kernel_rfl) (fun _ _ _ _ h => h) hF hS rfl (q_fieldAddrE fl48_3 (by decide) rfl) rfl (fun a hF => ?_)
                    refine r_qg (i := 23) rfl (by kernel_rfl) (by kernel_rfl) rfl (by kernel_rfl) (fun _ _ _ _ h => h) hF hS rfl (q_loadL (off := 34) (i := i) (v := .bool e3.gone) ty4 rfl hrl3 hel3 (by decide) rfl (En.ld_go e3)) rfl (fun a hF => ?_)
                    refine r_qg (i := 24) rfl (by kernel_rfl) (by kernel_rfl) rfl (by kernel_rfl) (fun _ _ _ _ h => h) hF hS rfl (q_not rfl) rfl (fun a hF => ?_)
                    refine r_qg (i := 25) rfl (by kernel_rfl) (by kernel_rfl) rfl (by kernel_rfl) (fun _ _ _ _ h => h) hF hS rfl (q_move rfl) rfl (fun a hF => ?_)
                    refine rw_ hF (s := 178) (u := .bool false) rfl (by rw [(hhit hc146 hc155).1]; rfl) (fun hF => ?_)
                    refine r_qg (i := 26) rfl (by kernel_rfl) (by kernel_rfl) rfl (by kernel_rfl) (fun _ _ _ _ h => h) hF hS rfl (q_move rfl) rfl (fun a hF => ?_)
                    refine r_qg (i := 27) rfl (by kernel_rfl) (by kernel_rfl) rfl (by kernel_rfl) (fun _ _ _ _ h => h) hF hS rfl (q_move rfl) rfl (fun a hF => ?_)
                    refine r_qg (i := 28) rfl (by kernel_rfl) (by kernel_rfl) rfl (by kernel_rfl) (fun _ _ _ _ h => h) hF hS rfl (q_indexAddrS Tryd.underlying31 ty48 rfl rfl (by omega) (hnil3)) rfl (fun a hF => ?_)
                    refine r_qg (i := 29) rfl (by kernel_rfl) (by kernel_rfl) rfl (by kernel_rfl) (fun _ _ _ _ h => h) hF hS rfl (q_fieldAddrE fl48_2 (by decide) rfl) rfl (fun a hF => ?_)
                    refine r_qg (i := 30) rfl (by kernel_rfl) (by kernel_rfl) rfl (by kernel_rfl) (fun _ _ _ _ h => h) hF hS rfl (q_loadL (off := 33) (i := i) (v := .slice e3.da e3.dn e3.dp) ty46 rfl hrl3 hel3 (by decide) rfl (En.ld_da e3)) rfl (fun a hF => ?_)
                    refine r_qg (i := 31) rfl (by kernel_rfl) (by kernel_rfl) rfl (by kernel_rfl) (fun _ _ _ _ h => h) hF hS rfl (q_len Tryd.underlying46 rfl rfl) rfl (fun a hF => ?_)
                    refine r_qg (i := 32) rfl (by kernel_rfl) (by kernel_rfl) rfl (by kernel_rfl) (fun _ _ _ _ h => h) hF hS rfl (q_gtr rfl rfl) rfl (fun a hF => ?_)
                    refine r_qg (i := 33) rfl (by kernel_rfl) (by kernel_rfl) rfl (by kernel_rfl) (fun _ _ _ _ h => h) hF hS rfl (q_pick (b := false) rfl rfl) rfl (fun a hF => ?_)
                    refine r_qg (i := 34) rfl (by kernel_rfl) (by kernel_rfl) rfl (by kernel_rfl) (fun _ _ _ _ h => h) hF hS rfl (q_move rfl) rfl (fun a hF => ?_)
                    refine spF hF (s := 187) rfl (by rw [(hhit hc146 hc155).2.1]; decide) (fun hF => ?_)
                    refine r_qg (i := 35) rfl (by kernel_rfl) (by kernel_rfl) rfl (by kernel_rfl) (fun _ _ _ _ h => h) hF hS rfl (q_move rfl) rfl (fun a hF => ?_)
                    refine r_qg (i := 36) rfl (by kernel_rfl) (by kernel_rfl) rfl (by kernel_rfl) (fun _ _ _ _ h => h) hF hS rfl (q_move rfl) rfl (fun a hF => ?_)
                    refine r_qg (i := 37) rfl (by kernel_rfl) (by kernel_rfl) rfl (by kernel_rfl) (fun _ _ _ _ h => h) hF hS rfl (q_indexAddrS Tryd.underlying31 ty48 rfl rfl (by omega) (hnil3)) rfl (fun a hF => ?_)
                    refine r_qg (i := 38) rfl (by kernel_rfl) (by kernel_rfl) rfl (by kernel_rfl) (fun _ _ _ _ h => h) hF hS rfl (q_fieldAddrE fl48_1 (by decide) rfl) rfl (fun a hF => ?_)
                    refine r_qg (i := 39) rfl (by kernel_rfl) (by kernel_rfl) rfl (by kernel_rfl) (fun _ _ _ _ h => h) hF hS rfl (q_loadL (off := 1) (i := i) (v := .agg (dc e3.dg).toArray) ty35 rfl hrl3 hel3 (by decide) rfl (En.ld_dg e3)) rfl (fun a hF => ?_)
                    refine r_qg (i := 40) rfl (by kernel_rfl) (by kernel_rfl) rfl (by kernel_rfl) (fun _ _ _ _ h => h) hF hS rfl (q_move rfl) rfl (fun a hF => ?_)
                    refine r_qg (i := 41) rfl (by kernel_rfl) (by kernel_rfl) rfl (by kernel_rfl) (fun _ _ _ _ h => h) hF hS rfl (q_move rfl) rfl (fun a hF => ?_)
                    refine r_qg (i := 42) rfl (by kernel_rfl) (by kernel_rfl) rfl (by kernel_rfl) (fun _ _ _ _ h => h) hF hS rfl (q_indexAddrS Tryd.underlying31 ty48 rfl rfl (by omega) (hnil)) rfl (fun a hF => ?_)
                    refine r_qg (i := 43) rfl (by kernel_rfl) (by kernel_rfl) rfl (by kernel_rfl) (fun _ _ _ _ h => h) hF hS rfl (q_fieldAddrE fl48_1 (by decide) rfl) rfl (fun a hF => ?_)
                    refine r_qg (i := 44) rfl (by kernel_rfl) (by kernel_rfl) rfl (by kernel_rfl) (fun _ _ _ _ h => h) hF hS rfl (q_loadL (off := 1) (i := i) (v := .agg (dc e.dg).toArray) ty35 rfl hrl hel (by decide) rfl (En.ld_dg e)) rfl (fun a hF => ?_)
                    refine r_qg (i := 45) rfl (by kernel_rfl) (by kernel_rfl) rfl (by kernel_rfl) (fun _ _ _ _ h => h) hF hS rfl (q_neDg gu35 Tryd.underlying35 Tryd.underlying5 ty5 rfl rfl) rfl (fun a hF => ?_)
                    refine r_qg (i := 46) rfl (by kernel_rfl) (by kernel_rfl) rfl (by kernel_rfl) (fun _ _ _ _ h => h) hF hS rfl (q_pick (b := false) rfl rfl) rfl (fun a hF => ?_)
                    refine r_qg (i := 47) rfl (by kernel_rfl) (by kernel_rfl) rfl (by kernel_rfl) (fun _ _ _ _ h => h) hF hS rfl (q_move rfl) rfl (fun a hF => ?_)
                    refine rw_ hF (s := 200) (u := .bool false) rfl (by rw [decide_eq_true (show e3.dg = e.dg from by exact (hhit hc146 hc155).2.2.1)]; rfl) (fun hF => ?_)
                    refine r_qg (i := 48) rfl (by kernel_rfl) (by kernel_rfl) rfl (by kernel_rfl) (fun _ _ _ _ h => h) hF hS rfl (q_move rfl) rfl (fun a hF => ?_)
                    refine r_qg (i := 49) rfl (by kernel_rfl) (by kernel_rfl) rfl (by kernel_rfl) (fun _ _ _ _ h => h) hF hS rfl (q_move rfl) rfl (fun a hF => ?_)
                    refine r_qg (i := 50) rfl (by kernel_rfl) (by kernel_rfl) rfl (by kernel_rfl) (fun _ _ _ _ h => h) hF hS rfl (q_indexAddrS Tryd.underlying31 ty48 rfl rfl (by omega) (hnil3)) rfl (fun a hF => ?_)
                    refine r_qg (i := 51) rfl (by kernel_rfl) (by kernel_rfl) rfl (by kernel_rfl) (fun _ _ _ _ h => h) hF hS rfl (q_fieldAddrE fl48_0 (by decide) rfl) rfl (fun a hF => ?_)
                    refine r_qg (i := 52) rfl (by kernel_rfl) (by kernel_rfl) rfl (by kernel_rfl) (fun _ _ _ _ h => h) hF hS rfl (q_loadL (off := 0) (i := i) (v := .int .i64 e3.kind) ty3 rfl hrl3 hel3 (by decide) rfl rfl) rfl (fun a hF => ?_)
                    refine r_qg (i := 53) rfl (by kernel_rfl) (by kernel_rfl) rfl (by kernel_rfl) (fun _ _ _ _ h => h) hF hS rfl (q_neI rfl rfl) rfl (fun a hF => ?_)
                    refine r_qg (i := 54) rfl (by kernel_rfl) (by kernel_rfl) rfl (by kernel_rfl) (fun _ _ _ _ h => h) hF hS rfl (q_pick (b := false) rfl rfl) rfl (fun a hF => ?_)
                    refine r_qg (i := 55) rfl (by kernel_rfl) (by kernel_rfl) rfl (by kernel_rfl) (fun _ _ _ _ h => h) hF hS rfl (q_pick (b := true) rfl rfl) rfl (fun a hF => ?_)
                    refine r_q (i := 56) rfl (by kernel_rfl) (by kernel_rfl) rfl (by kernel_rfl) (fun _ _ _ _ h => h) hF hS (q_pick (b := false) rfl rfl) rfl (fun a hF => ?_)
                    refine r_done (by kernel_rfl) ?_
                    refine hK67 _ _ ?_
                    refine rw_ hF (s := 209) (u := .bool false) rfl (by rw [decide_eq_true (show e3.kind = 4 from by exact (hhit hc146 hc155).2.2.2)]; rfl) (fun hF => ?_)
                    refine c_false hF rfl ?_
                    refine wp_skip ?_
                    refine hK64 _ _ ?_
                    refine c_reg ?_
                    refine n_q hF hS (q_addI rfl rfl (by omega)) rfl (fun a hF => ?_)
                    refine n_q hF hS (q_move rfl) rfl (fun a hF => ?_)
                    exact ⟨i + 1, _, (by show es.length - (i + 1) < es.length - i; omega), hl2, hF.back ⟨rfl, trivial⟩ rfl (by repeat first | exact Ext.refl _ _ | refine Ext.rem' rfl ?_ | refine Ext.push rfl ?_), hS.lose (.refl _), (by show i + 1 ≤ es.length; omega)⟩
                · refine n_no hF (b := false) rfl rfl rfl (fun a hF => ?_)
                  refine n_no hF (b := false) rfl rfl rfl (fun a hF => ?_)
                  refine n_no hF (b := false) rfl rfl rfl (fun a hF => ?_)
                  refine n_no hF (b := false) rfl rfl rfl (fun a hF => ?_)
                  refine n_no hF (b := false) rfl rfl rfl (fun a hF => ?_)
                  refine n_q hF hS (q_pick (b := false) rfl rfl) rfl (fun a hF => ?_)
                  refine n_q hF hS (q_assign rfl) rfl (fun a hF => ?_)
                  refine hK66 _ _ ?_
                  refine c_seq (fun K69 hK69 => ?_)
                  have hhit : (k : Int) = x.fo → (i : Int) + 1 = x.no → (e3.gone = true ∧ e3.dn = 0 ∧ e3.dg = e.dg ∧ e3.kind = 4) := fun hkf hi => by
                    rw [if_pos hkf, ← hkf] at hkl3
                    have hp : (x.no - 1).toNat = i := by omega
                    rw [hp] at hkl3
                    have h9 := del_hit hkl hkl3 he? he3?
                    rw [hp, ← hkf] at heh
                    have h8 : eh = e.key := Option.some.inj (heh.symm.trans (key_at hkl he?))
                    refine ⟨congrArg (·.2.2.2) h9, ?_, congrArg (·.2.1) h9, ?_⟩
                    · have hbs : e3.bs = [] := congrArg (·.2.2.1) h9
                      have h7 := dn_bs (hol3 e3 (List.mem_of_getElem? he3?)).1
                      rw [hbs] at h7; exact h7
                    · have h7 : e3.kind = e.kind := congrArg (·.1) h9
                      rw [h7]; have h6 := heh4; rw [h8] at h6; exact h6
                  refine r_start (fun L => L) [] mo hS (fun w hS => ?_)
                  refine r_q (i := 0) rfl (by kernel_rfl) (by kernel_rfl) rfl (by kernel_rfl) (fun _ _ _ _ h => h) hF hS (q_move rfl) rfl (fun a hF => ?_)
                  refine r_q (i := 1) rfl (by kernel_rfl) (by kernel_rfl) rfl (by kernel_rfl) (fun _ _ _ _ h => h) hF hS (q_not rfl) rfl (fun a hF => ?_)
                  refine r_q (i := 2) rfl (by kernel_rfl) (by kernel_rfl) rfl (by kernel_rfl) (fun _ _ _ _ h => h) hF hS (q_move rfl) rfl (fun a hF => ?_)
                  refine r_qg (i := 3) rfl (by kernel_rfl) (by kernel_rfl) rfl (by kernel_rfl) (fun _ _ _ _ h => h) hF hS rfl (q_move rfl) rfl (fun a hF => ?_)
                  refine r_qg (i := 4) rfl (by kernel_rfl) (by kernel_rfl) rfl (by kernel_rfl) (fun _ _ _ _ h => h) hF hS rfl (q_move rfl) rfl (fun a hF => ?_)
                  refine r_qg (i := 5) rfl (by kernel_rfl) (by kernel_rfl) rfl (by kernel_rfl) (fun _ _ _ _ h => h) hF hS rfl (q_move rfl) rfl (fun a hF => ?_)
                  refine r_qg (i := 6) rfl (by kernel_rfl) (by kernel_rfl) rfl (by kernel_rfl) (fun _ _ _ _ h => h) hF hS rfl (q_addI rfl rfl (by omega)) rfl (fun a hF => ?_)
                  refine r_qg (i := 7) rfl (by kernel_rfl) (by kernel_rfl) rfl (by kernel_rfl) (fun _ _ _ _ h => h) hF hS rfl (q_cast (u := .slice (cutA al3 c3 i 35) 1 (c3 - i)) (q_sliceLH (l := i) (h := i + 1) Tryd.underlying31 ty48 rfl rfl rfl (by omega) (by omega)) (by rw [Nat.add_sub_cancel_left])) rfl (fun a hF => ?_)
                  refine r_qg (i := 8) rfl (by kernel_rfl) (by kernel_rfl) rfl (by kernel_rfl) (fun _ _ _ _ h => h) hF hS rfl (q_move rfl) rfl (fun a hF => ?_)
                  refine r_qg (i := 9) rfl (by kernel_rfl) (by kernel_rfl) rfl (by kernel_rfl) (fun _ _ _ _ h => h) hF hS rfl (q_move rfl) rfl (fun a hF => ?_)
                  refine r_qg (i := 10) rfl (by kernel_rfl) (by kernel_rfl) rfl (by kernel_rfl) (fun _ _ _ _ h => h) hF hS rfl (q_move rfl) rfl (fun a hF => ?_)
                  refine r_qg (i := 11) rfl (by kernel_rfl) (by kernel_rfl) rfl (by kernel_rfl) (fun _ _ _ _ h => h) hF hS rfl (q_addI rfl rfl (by omega)) rfl (fun a hF => ?_)
                  refine r_qg (i := 12) rfl (by kernel_rfl) (by kernel_rfl) rfl (by kernel_rfl) (fun _ _ _ _ h => h) hF hS rfl (q_cast (u := .slice (cutA al0 c0 i 35) 1 (c0 - i)) (q_sliceLH (l := i) (h := i + 1) Tryd.underlying31 ty48 rfl rfl rfl (by omega) (by omega)) (by rw [Nat.add_sub_cancel_left])) rfl (fun a hF => ?_)
                  refine r_one (i := 13) (by kernel_rfl) ?_
                  have hsub := hS.sub
                  refine r_lig rfl rfl hF rfl (fun K70 hK70 => l_call en24 hF rfl rfl (SameEntries_c [e3] [e] (cutA al3 c3 i 35) (cutA al0 c0 i 35) (c3 - i) (c0 - i) (by show 1 ≤ 1000000; decide) _ _ hS.fz (rd_one hrl3 he3? (by omega)) (rd_one hrl he? (by omega)) (hol3.one he3?) (hol.one he?)) (fun v70 w hR a hF => ?_))
                  obtain ⟨rfl, hc⟩ := hR
                  replace hS := hS.call0 hc
                  have hmiss : e3.key = e.key := by
                    by_cases hkf : (k : Int) = x.fo
                    · rw [if_pos hkf, ← hkf] at hkl3
                      exact del_miss hkl hkl3 he? he3? (by omega)
                    · rw [if_neg hkf] at hkl3
                      exact Option.some.inj ((key_at hkl3 he3?).symm.trans (key_at hkl he?))
                  refine hK70 _ _ _ hS (fun _ h => h) ?_
                  refine r_qg (i := 14) rfl (by kernel_rfl) (by kernel_rfl) rfl (by kernel_rfl) (fun _ _ _ _ h => h) hF hS rfl (q_not rfl) rfl (fun a hF => ?_)
                  refine r_q (i := 15) rfl (by kernel_rfl) (by kernel_rfl) rfl (by kernel_rfl) (fun _ _ _ _ h => h) hF hS (q_pick (b := true) rfl rfl) rfl (fun a hF => ?_)
                  refine r_q (i := 16) rfl (by kernel_rfl) (by kernel_rfl) rfl (by kernel_rfl) (fun _ _ _ _ h => h) hF hS (q_move rfl) rfl (fun a hF => ?_)
                  refine rw_ hF (s := 169) (u := .bool false) rfl (by rw [same_one hmiss]; rfl) (fun hF => ?_)
                  refine r_qg (i := 17) rfl (by kernel_rfl) (by kernel_rfl) rfl (by kernel_rfl) (fun _ _ _ _ h => h) hF hS rfl (q_move rfl) rfl (fun a hF => ?_)
                  refine r_qg (i := 18) rfl (by kernel_rfl) (by kernel_rfl) rfl (by kernel_rfl) (fun _ _ _ _ h => h) hF hS rfl (q_move rfl) rfl (fun a hF => ?_)
                  refine r_no (b := false) (i := 19) rfl (by kernel_rfl) (by kernel_rfl) rfl (by kernel_rfl) (fun _ _ _ _ h => h) hF hS rfl rfl rfl (fun a hF => ?_)
                  refine r_no (b := false) (i := 20) rfl (by kernel_rfl) (by kernel_rfl) rfl (by kernel_rfl) (fun _ _ _ _ h => h) hF hS rfl rfl rfl (fun a hF => ?_)
                  refine r_no (b := false) (i := 21) rfl (by kernel_rfl) (by kernel_rfl) rfl (by kernel_rfl) (fun _ _ _ _ h => h) hF hS rfl rfl rfl (fun a hF => ?_)
                  refine r_no (b := false) (i := 22) rfl (by kernel_rfl) (by kernel_rfl) rfl (by kernel_rfl) (fun _ _ _ _ h => h) hF hS rfl rfl rfl (fun a hF => ?_)
                  refine r_no (b := false) (i := 23) rfl (by kernel_rfl) (by kernel_rfl) rfl (by kernel_rfl) (fun _ _ _ _ h => h) hF hS rfl rfl rfl (fun a hF => ?_)
                  refine r_no (b := false) (i := 24) rfl (by kernel_rfl) (by kernel_rfl) rfl (by kernel_rfl) (fun _ _ _ _ h => h) hF hS rfl rfl rfl (fun a hF => ?_)
                  refine r_no (b := false) (i := 25) rfl (by kernel_rfl) (by kernel_rfl) rfl (by kernel_rfl) (fun _ _ _ _ h => h) hF hS rfl rfl rfl (fun a hF => ?_)
                  refine r_nou (i := 26) rfl (by kernel_rfl) (by kernel_rfl) rfl (by kernel_rfl) (fun _ _ _ _ h => h) hF hS rfl rfl (fun a hF => ?_)
                  refine r_nou (i := 27) rfl (by kernel_rfl) (by kernel_rfl) rfl (by kernel_rfl) (fun _ _ _ _ h => h) hF hS rfl rfl (fun a hF => ?_)
                  refine r_nou (i := 28) rfl (by kernel_rfl) (by kernel_rfl) rfl (by kernel_rfl) (fun _ _ _ _ h => h) hF hS rfl rfl (fun a hF => ?_)
                  refine r_nou (i := 29) rfl (by kernel_rfl) (by kernel_rfl) rfl (by kernel_rfl) (fun _ _ _ _ h => h) hF hS rfl rfl (fun a hF => ?_)
                  refine r_nou (i := 30) rfl (by kernel_rfl) (by kernel_rfl) rfl (by kernel_rfl) (fun _ _ _ _ h => h) hF hS rfl rfl (fun a hF => ?_)
                  refine r_nou (i := 31) rfl (by kernel_rfl) (by kernel_rfl) rfl (by kernel_rfl) (fun _ _ _ _ h => h) hF hS rfl rfl (fun a hF => ?_)
                  refine r_nou (i := 32) rfl (by kernel_rfl) (by kernel_rfl) rfl (by kernel_rfl) (fun _ _ _ _ h => h) hF hS rfl rfl (fun a hF => ?_)
                  refine r_no (b := false) (i := 33) rfl (by kernel_rfl) (by kernel_rfl) rfl (by kernel_rfl) (fun _ _ _ _ h => h) hF hS rfl rfl rfl (fun a hF => ?_)
                  refine r_no (b := false) (i := 34) rfl (by kernel_rfl) (by kernel_rfl) rfl (by kernel_rfl) (fun _ _ _ _ h => h) hF hS rfl rfl rfl (fun a hF => ?_)
                  refine r_nou (i := 35) rfl (by kernel_rfl) (by kernel_rfl) rfl (by kernel_rfl) (fun _ _ _ _ h => h) hF hS rfl rfl (fun a hF => ?_)
                  refine r_nou (i := 36) rfl (by kernel_rfl) (by kernel_rfl) rfl (by kernel_rfl) (fun _ _ _ _ h => h) hF hS rfl rfl (fun a hF => ?_)
                  refine r_nou (i := 37) rfl (by kernel_rfl) (by kernel_rfl) rfl (by kernel_rfl) (fun _ _ _ _ h => h) hF hS rfl rfl (fun a hF => ?_)
                  refine r_nou (i := 38) rfl (by kernel_rfl) (by kernel_rfl) rfl (by kernel_rfl) (fun _ _ _ _ h => h) hF hS rfl rfl (fun a hF => ?_)
                  refine r_nou (i := 39) rfl (by kernel_rfl) (by kernel_rfl) rfl (by kernel_rfl) (fun _ _ _ _ h => h) hF hS rfl rfl (fun a hF => ?_)
                  refine r_nou (i := 40) rfl (by kernel_rfl) (by kernel_rfl) rfl (by kernel_rfl) (fun _ _ _ _ h => h) hF hS rfl rfl (fun a hF => ?_)
                  refine r_nou (i := 41) rfl (by kernel_rfl) (by kernel_rfl) rfl (by kernel_rfl) (fun _ _ _ _ h => h) hF hS rfl rfl (fun a hF => ?_)
                  refine r_nou (i := 42) rfl (by kernel_rfl) (by kernel_rfl) rfl (by kernel_rfl) (fun _ _ _ _ h => h) hF hS rfl rfl (fun a hF => ?_)
                  refine r_nou (i := 43) rfl (by kernel_rfl) (by kernel_rfl) rfl (by kernel_rfl) (fun _ _ _ _ h => h) hF hS rfl rfl (fun a hF => ?_)
                  refine r_nou (i := 44) rfl (by kernel_rfl) (by kernel_rfl) rfl (by kernel_rfl) (fun _ _ _ _ h => h) hF hS rfl rfl (fun a hF => ?_)
                  refine r_nou (i := 45) rfl (by kernel_rfl) (by kernel_rfl) rfl (by kernel_rfl) (fun _ _ _ _ h => h) hF hS rfl rfl (fun a hF => ?_)
                  refine r_no (b := false) (i := 46) rfl (by kernel_rfl) (by kernel_rfl) rfl (by kernel_rfl) (fun _ _ _ _ h => h) hF hS rfl rfl rfl (fun a hF => ?_)
                  refine r_no (b := false) (i := 47) rfl (by kernel_rfl) (by kernel_rfl) rfl (by kernel_rfl) (fun _ _ _ _ h => h) hF hS rfl rfl rfl (fun a hF => ?_)
                  refine r_nou (i := 48) rfl (by kernel_rfl) (by kernel_rfl) rfl (by kernel_rfl) (fun _ _ _ _ h => h) hF hS rfl rfl (fun a hF => ?_)
                  refine r_nou (i := 49) rfl (by kernel_rfl) (by kernel_rfl) rfl (by kernel_rfl) (fun _ _ _ _ h => h) hF hS rfl rfl (fun a hF => ?_)
                  refine r_nou (i := 50) rfl (by kernel_rfl) (by kernel_rfl) rfl (by kernel_rfl) (fun _ _ _ _ h => h) hF hS rfl rfl (fun a hF => ?_)
                  refine r_nou (i := 51) rfl (by kernel_rfl) (by kernel_rfl) rfl (by kernel_rfl) (fun _ _ _ _ h => h) hF hS rfl rfl (fun a hF => ?_)
                  refine r_nou (i := 52) rfl (by kernel_rfl) (by kernel_rfl) rfl (by kernel_rfl) (fun _ _ _ _ h => h) hF hS rfl rfl (fun a hF => ?_)
                  refine r_nou (i := 53) rfl (by kernel_rfl) (by kernel_rfl) rfl (by kernel_rfl) (fun _ _ _ _ h => h) hF hS rfl rfl (fun a hF => ?_)
                  refine r_no (b := false) (i := 54) rfl (by kernel_rfl) (by kernel_rfl) rfl (by kernel_rfl) (fun _ _ _ _ h => h) hF hS rfl rfl rfl (fun a hF => ?_)
                  refine r_qg (i := 55) rfl (by kernel_rfl) (by kernel_rfl) rfl (by kernel_rfl) (fun _ _ _ _ h => h) hF hS rfl (q_pick (b := false) rfl rfl) rfl (fun a hF => ?_)
                  refine r_q (i := 56) rfl (by kernel_rfl) (by kernel_rfl) rfl (by kernel_rfl) (fun _ _ _ _ h => h) hF hS (q_pick (b := false) rfl rfl) rfl (fun a hF => ?_)
                  refine r_done (by kernel_rfl) ?_
                  refine hK69 _ _ ?_
                  refine c_false hF rfl ?_
                  refine wp_skip ?_
                  refine hK64 _ _ ?_
                  refine c_reg ?_
                  refine n_q hF hS (q_addI rfl rfl (by omega)) rfl (fun a hF => ?_)
                  refine n_q hF hS (q_move rfl) rfl (fun a hF => ?_)
                  exact ⟨i + 1, _, (by show es.length - (i + 1) < es.length - i; omega), hl2, hF.back ⟨rfl, trivial⟩ rfl (by repeat first | exact Ext.refl _ _ | refine Ext.rem' rfl ?_ | refine Ext.push rfl ?_), hS.lose (.refl _), (by show i + 1 ≤ es.length; omega)⟩
              · refine c_false hF rfl ?_
                refine c_exit ?_
                refine hK26 _ _ ?_
                refine c_reg ?_
                refine n_q hF hS (q_addI rfl rfl (by omega)) rfl (fun a hF => ?_)
                refine n_q hF hS (q_move rfl) rfl (fun a hF => ?_)
                exact ⟨k + 1, _, (by show 16 - (k + 1) < 16 - k; omega), hl0, hF.back ⟨rfl, trivial⟩ rfl (by repeat first | exact Ext.refl _ _ | refine Ext.rem' rfl ?_ | refine Ext.push rfl ?_), hS.lose (.refl _), (by show k + 1 ≤ 16; omega)⟩
        · refine c_false hF rfl ?_
          refine wp_skip ?_
          refine hK32 _ _ ?_
          refine c_seq (fun K71 hK71 => ?_)
          refine c_seq (fun K72 hK72 => ?_)
          refine c_reg ?_
          refine n_q hF hS (q_move rfl) rfl (fun a hF => ?_)
          refine n_q hF hS (q_neI rfl rfl) rfl (fun a hF => ?_)
          refine hK72 _ _ ?_
          refine spn hF (s := 121) rfl (fun hc121 hF => ?_) (fun hc121 hF => ?_)
          · refine c_true hF rfl ?_
            refine c_exit ?_
            refine hK26 _ _ ?_
            refine c_reg ?_
            refine n_q hF hS (q_addI rfl rfl (by omega)) rfl (fun a hF => ?_)
            refine n_q hF hS (q_move rfl) rfl (fun a hF => ?_)
            exact ⟨k + 1, _, (by show 16 - (k + 1) < 16 - k; omega), hl0, hF.back ⟨rfl, trivial⟩ rfl (by repeat first | exact Ext.refl _ _ | refine Ext.rem' rfl ?_ | refine Ext.push rfl ?_), hS.lose (.refl _), (by show k + 1 ≤ 16; omega)⟩
          · refine c_false hF rfl ?_
            refine wp_skip ?_
            refine hK71 _ _ ?_
            refine c_seq (fun K73 hK73 => ?_)
            refine c_reg ?_
            have gd := hgs.del hod hRd hc121
            obtain ⟨hno1, ⟨eh, heh, heh4⟩, hdk⟩ := apart_del hc121
            refine n_q hF hS (q_load0 ty26 rfl (i := 0) rfl rfl rfl) rfl (fun a hF => ?_)
            refine n_q hF hS (q_move rfl) rfl (fun a hF => ?_)
            refine n_l rfl (fun K74 hK74 => l_call en14 hF rfl rfl (Fetch_c d (k : Int) 1 _ _ hS.fz hg gd.ok) (fun v74 w hR a hF => ?_))
            obtain ⟨es3, al3, c3, H3, hv, hle3, hkl3, hrl3, hol3, hcl3, hc⟩ := hR
            rw [gd.fetchE, (fetch_one hk16).1] at hv
            subst hv
            replace hS := hS.call hc
            replace hg := hg.mono hle3
            replace hgs := hgs.mono hle3
            replace hop := hop.mono hle3
            replace hod := hod.mono hle3
            replace hl0 := hl0.mono hle3
            replace hrl := hrl.mono hle3
            replace hol := hol.mono hle3
            rw [gd.fetchL, (fetch_one hk16).2] at hkl3
            refine hK74 _ _ ?_
            refine n_q hF hS (q_move rfl) rfl (fun a hF => ?_)
            refine n_q hF hS (q_extract (i := 0) rfl rfl) rfl (fun a hF => ?_)
            refine n_q hF hS (q_extract (i := 1) rfl rfl) rfl (fun a hF => ?_)
            refine n_q hF hS (q_assign rfl) rfl (fun a hF => ?_)
            refine n_q hF hS (q_assign rfl) rfl (fun a hF => ?_)
            refine hK73 _ _ ?_
            refine c_seq (fun K75 hK75 => ?_)
            refine c_seq (fun K76 hK76 => ?_)
            refine c_reg ?_
            rw [hdk] at hkl3
            have hn3 : es3.length = es.length := by
              have := congrArg List.length hkl3
              rw [List.length_map] at this
              rw [this, hkn]
              split
              · rename_i he; rw [List.length_modify, he]
              · rfl
            refine n_q hF hS (q_move rfl) rfl (fun a hF => ?_)
            refine n_q hF hS (q_neI rfl rfl) rfl (fun a hF => ?_)
            refine n_q hF hS (q_move rfl) rfl (fun a hF => ?_)
            refine rw_ hF (s := 130) (u := .bool false) rfl (by rfl) (fun hF => ?_)
            refine n_yes hF rfl ?_
            refine n_q hF hS (q_move rfl) rfl (fun a hF => ?_)
            refine n_yes hF rfl ?_
            refine n_q hF hS (q_len Tryd.underlying31 rfl rfl) rfl (fun a hF => ?_)
            refine n_yes hF rfl ?_
            refine n_q hF hS (q_move rfl) rfl (fun a hF => ?_)
            refine n_yes hF rfl ?_
            refine n_q hF hS (q_len Tryd.underlying31 rfl rfl) rfl (fun a hF => ?_)
            refine n_yes hF rfl ?_
            refine n_q hF hS (q_neI rfl rfl) rfl (fun a hF => ?_)
            refine n_q hF hS (q_pick (b := false) rfl rfl) rfl (fun a hF => ?_)
            refine hK76 _ _ ?_
            refine rw_ hF (s := 136) (u := .bool false) rfl (by rw [decide_eq_true (show (es3.length : Int) = (es.length : Int) from by omega)]; rfl) (fun hF => ?_)
            refine c_false hF rfl ?_
            refine wp_skip ?_
            refine hK75 _ _ ?_
            refine c_seq (fun K77 hK77 => ?_)
            refine c_reg ?_
            refine n_q hF hS (q_move rfl) rfl (fun a hF => ?_)
            refine n_q hF hS (q_len Tryd.underlying31 rfl rfl) rfl (fun a hF => ?_)
            refine n_q hF hS (q_move rfl) rfl (fun a hF => ?_)
            refine hK77 _ _ ?_
            refine c_block ?_
            refine c_loopL hF [4, 20, 21, 139, 140, 141, 142, 143, 144, 145, 146, 147, 148, 149, 150, 151, 152, 153, 154, 155, 156, 157, 158, 159, 160, 161, 162, 163, 164, 165, 166, 167, 168, 169, 170, 171, 172, 173, 174, 175, 176, 177, 178, 179, 180, 181, 182, 183, 184, 185, 186, 187, 188, 189, 190, 191, 192, 193, 194, 195, 196, 197, 198, 199, 200, 201, 202, 203, 204, 205, 206, 207, 208, 209, 210]
              (fun i : Nat => [(139, .int .i64 (i : Int))])
              (fun _ => [⟨b4, d.c, 26⟩, ⟨b3, p.c, 26⟩, ⟨b2, s.c, 26⟩, ⟨b1, x.c, 58⟩])
              (fun i _ => i ≤ es.length)
              (fun i => es.length - i) (0) ⟨rfl, trivial⟩ (hS) (Nat.zero_le _) ?_
            clear hF hS
            intro i a w H hle hF hS hJ
            replace hg := hg.mono hle
            replace hgs := hgs.mono hle
            replace hop := hop.mono hle
            replace hod := hod.mono hle
            replace hl0 := hl0.mono hle
            replace hrl := hrl.mono hle
            replace hol := hol.mono hle
            replace hrl3 := hrl3.mono hle
            replace hol3 := hol3.mono hle
            have hl3 := Le.refl H
            try dsimp only at hF hJ hS
            refine c_seq (fun K78 hK78 => ?_)
            refine c_reg ?_
            refine n_q hF hS (q_lss rfl rfl) rfl (fun a hF => ?_)
            refine hK78 _ _ ?_
            refine c_seq (fun K79 hK79 => ?_)
            refine spd hF (s := 140) rfl (fun hc140 hF => ?_) (fun hc140 hF => ?_)
            · refine c_true hF rfl ?_
              refine wp_skip ?_
              refine hK79 _ _ ?_
              refine c_seq (fun K80 hK80 => ?_)
              refine c_block ?_
              refine c_seq (fun K81 hK81 => ?_)
              refine c_reg ?_
              have hlt : i < es.length := by omega
              obtain ⟨e, hed⟩ : ∃ q, q = es[i] := ⟨_, rfl⟩
              have he? : es[i]? = some e := by rw [hed]; simp [hlt]
              obtain ⟨e3, he3d⟩ : ∃ q, q = es3[i]'(by omega) := ⟨_, rfl⟩
              have he3? : es3[i]? = some e3 := by rw [he3d]; simp [hn3, hlt]
              have hel : (enE es)[i]? = some e.c := by simp [enE, he?]
              have hel3 : (enE es3)[i]? = some e3.c := by simp [enE, he3?]
              have hnil := hrl.some (by simp only [enE, List.length_map]; omega)
              have hnil3 := hrl3.some (by simp only [enE, List.length_map]; omega)
              refine n_q hF hS (q_move rfl) rfl (fun a hF => ?_)
              refine n_q hF hS (q_assign rfl) rfl (fun a hF => ?_)
              refine hK81 _ _ ?_
              refine c_seq (fun K82 hK82 => ?_)
              refine c_reg ?_
              refine n_q hF hS (q_move rfl) rfl (fun a hF => ?_)
              refine n_q hF hS (q_fieldAddr fl58_0 (by decide) rfl) rfl (fun a hF => ?_)
              refine n_q hF hS (q_load ty3 rfl (i := 3) rfl rfl rfl (show ldv false 1 x.c 0 = some (.int .i64 x.fo) from rfl)) rfl (fun a hF => ?_)
              refine n_q hF hS (q_eqI rfl rfl) rfl (fun a hF => ?_)
              refine n_q hF hS (q_move rfl) rfl (fun a hF => ?_)
              refine spd hF (s := 146) rfl (fun hc146 hF => ?_) (fun hc146 hF => ?_)
              · refine n_yes hF rfl ?_
                refine n_q hF hS (q_move rfl) rfl (fun a hF => ?_)
                refine n_yes hF rfl ?_
                refine n_q hF hS (q_addI rfl rfl (by omega)) rfl (fun a hF => ?_)
                refine n_yes hF rfl ?_
                refine n_q hF hS (q_fieldAddr fl58_2 (by decide) rfl) rfl (fun a hF => ?_)
                refine n_yes hF rfl ?_
                refine n_q hF hS (q_load ty3 rfl (i := 3) rfl rfl rfl (show ldv false 1 x.c 2 = some (.int .i64 x.no) from rfl)) rfl (fun a hF => ?_)
                refine n_yes hF rfl ?_
                refine n_q hF hS (q_eqI rfl rfl) rfl (fun a hF => ?_)
                refine n_q hF hS (q_pick (b := true) rfl rfl) rfl (fun a hF => ?_)
                refine n_q hF hS (q_assign rfl) rfl (fun a hF => ?_)
                refine hK82 _ _ ?_
                refine c_seq (fun K83 hK83 => ?_)
                have hhit : (k : Int) = x.fo → (i : Int) + 1 = x.no → (e3.gone = true ∧ e3.dn = 0 ∧ e3.dg = e.dg ∧ e3.kind = 4) := fun hkf hi => by
                  rw [if_pos hkf, ← hkf] at hkl3
                  have hp : (x.no - 1).toNat = i := by omega
                  rw [hp] at hkl3
                  have h9 := del_hit hkl hkl3 he? he3?
                  rw [hp, ← hkf] at heh
                  have h8 : eh = e.key := Option.some.inj (heh.symm.trans (key_at hkl he?))
                  refine ⟨congrArg (·.2.2.2) h9, ?_, congrArg (·.2.1) h9, ?_⟩
                  · have hbs : e3.bs = [] := congrArg (·.2.2.1) h9
                    have h7 := dn_bs (hol3 e3 (List.mem_of_getElem? he3?)).1
                    rw [hbs] at h7; exact h7
                  · have h7 : e3.kind = e.kind := congrArg (·.1) h9
                    rw [h7]; have h6 := heh4; rw [h8] at h6; exact h6
                refine r_start (fun L => L) [] mo hS (fun w hS => ?_)
                refine r_q (i := 0) rfl (by kernel_rfl) (by kernel_rfl) rfl (by kernel_rfl) (fun _ _ _ _ h => h) hF hS (q_move rfl) rfl (fun a hF => ?_)
                refine r_q (i := 1) rfl (by kernel_rfl) (by kernel_rfl) rfl (by kernel_rfl) (fun _ _ _ _ h => h) hF hS (q_not rfl) rfl (fun a hF => ?_)
                refine r_q (i := 2) rfl (by kernel_rfl) (by kernel_rfl) rfl (by kernel_rfl) (fun _ _ _ _ h => h) hF hS (q_move rfl) rfl (fun a hF => ?_)
                refine spn hF (s := 155) rfl (fun hc155 hF => ?_) (fun hc155 hF => ?_)
                · refine r_qg (i := 3) rfl (by kernel_rfl) (by kernel_rfl) rfl (by kernel_rfl) (fun _ _ _ _ h => h) hF hS rfl (q_move rfl) rfl (fun a hF => ?_)
                  refine r_qg (i := 4) rfl (by kernel_rfl) (by kernel_rfl) rfl (by kernel_rfl) (fun _ _ _ _ h => h) hF hS rfl (q_move rfl) rfl (fun a hF => ?_)
                  refine r_qg (i := 5) rfl (by kernel_rfl) (by kernel_rfl) rfl (by kernel_rfl) (fun _ _ _ _ h => h) hF hS rfl (q_move rfl) rfl (fun a hF => ?_)
                  refine r_qg (i := 6) rfl (by kernel_rfl) (by kernel_rfl) rfl (by kernel_rfl) (fun _ _ _ _ h => h) hF hS rfl (q_addI rfl rfl (by omega)) rfl (fun a hF => ?_)
                  refine r_qg (i := 7) rfl (by kernel_rfl) (by kernel_rfl) rfl (by kernel_rfl) (fun _ _ _ _ h => h) hF hS rfl (q_cast (u := .slice (cutA al3 c3 i 35) 1 (c3 - i)) (q_sliceLH (l := i) (h := i + 1) Tryd.underlying31 ty48 rfl rfl rfl (by omega) (by omega)) (by rw [Nat.add_sub_cancel_left])) rfl (fun a hF => ?_)
                  refine r_qg (i := 8) rfl (by kernel_rfl) (by kernel_rfl) rfl (by kernel_rfl) (fun _ _ _ _ h => h) hF hS rfl (q_move rfl) rfl (fun a hF => ?_)
                  refine r_qg (i := 9) rfl (by kernel_rfl) (by kernel_rfl) rfl (by kernel_rfl) (fun _ _ _ _ h => h) hF hS rfl (q_move rfl) rfl (fun a hF => ?_)
                  refine r_qg (i := 10) rfl (by kernel_rfl) (by kernel_rfl) rfl (by kernel_rfl) (fun _ _ _ _ h => h) hF hS rfl (q_move rfl) rfl (fun a hF => ?_)
                  refine r_qg (i := 11) rfl (by kernel_rfl) (by kernel_rfl) rfl (by kernel_rfl) (fun _ _ _ _ h => h) hF hS rfl (q_addI rfl rfl (by omega)) rfl (fun a hF => ?_)
                  refine r_qg (i := 12) rfl (by kernel_rfl) (by kernel_rfl) rfl (by kernel_rfl) (fun _ _ _ _ h => h) hF hS rfl (q_cast (u := .slice (cutA al0 c0 i 35) 1 (c0 - i)) (q_sliceLH (l := i) (h := i + 1) Tryd.underlying31 ty48 rfl rfl rfl (by omega) (by omega)) (by rw [Nat.add_sub_cancel_left])) rfl (fun a hF => ?_)
                  refine r_one (i := 13) (by kernel_rfl) ?_
                  have hsub := hS.sub
                  refine r_lig rfl rfl hF rfl (fun K84 hK84 => l_call en24 hF rfl rfl (SameEntries_c [e3] [e] (cutA al3 c3 i 35) (cutA al0 c0 i 35) (c3 - i) (c0 - i) (by show 1 ≤ 1000000; decide) _ _ hS.fz (rd_one hrl3 he3? (by omega)) (rd_one hrl he? (by omega)) (hol3.one he3?) (hol.one he?)) (fun v84 w hR a hF => ?_))
                  obtain ⟨rfl, hc⟩ := hR
                  replace hS := hS.call0 hc
                  have hmiss : e3.key = e.key := by
                    by_cases hkf : (k : Int) = x.fo
                    · rw [if_pos hkf, ← hkf] at hkl3
                      exact del_miss hkl hkl3 he? he3? (by omega)
                    · rw [if_neg hkf] at hkl3
                      exact Option.some.inj ((key_at hkl3 he3?).symm.trans (key_at hkl he?))
                  refine hK84 _ _ _ hS (fun _ h => h) ?_
                  refine r_qg (i := 14) rfl (by kernel_rfl) (by kernel_rfl) rfl (by kernel_rfl) (fun _ _ _ _ h => h) hF hS rfl (q_not rfl) rfl (fun a hF => ?_)
                  refine r_q (i := 15) rfl (by kernel_rfl) (by kernel_rfl) rfl (by kernel_rfl) (fun _ _ _ _ h => h) hF hS (q_pick (b := true) rfl rfl) rfl (fun a hF => ?_)
                  refine r_q (i := 16) rfl (by kernel_rfl) (by kernel_rfl) rfl (by kernel_rfl) (fun _ _ _ _ h => h) hF hS (q_move rfl) rfl (fun a hF => ?_)
                  refine rw_ hF (s := 169) (u := .bool false) rfl (by rw [same_one hmiss]; rfl) (fun hF => ?_)
                  refine r_qg (i := 17) rfl (by kernel_rfl) (by kernel_rfl) rfl (by kernel_rfl) (fun _ _ _ _ h => h) hF hS rfl (q_move rfl) rfl (fun a hF => ?_)
                  refine r_qg (i := 18) rfl (by kernel_rfl) (by kernel_rfl) rfl (by kernel_rfl) (fun _ _ _ _ h => h) hF hS rfl (q_move rfl) rfl (fun a hF => ?_)
                  refine spF hF (s := 171) rfl (by exact hc155) (fun hF => ?_)
                  refine r_no (b := false) (i := 19) rfl (by kernel_rfl) (by kernel_rfl) rfl (by kernel_rfl) (fun _ _ _ _ h => h) hF hS rfl rfl rfl (fun a hF => ?_)
                  refine r_no (b := false) (i := 20) rfl (by kernel_rfl) (by kernel_rfl) rfl (by kernel_rfl) (fun _ _ _ _ h => h) hF hS rfl rfl rfl (fun a hF => ?_)
                  refine r_no (b := false) (i := 21) rfl (by kernel_rfl) (by kernel_rfl) rfl (by kernel_rfl) (fun _ _ _ _ h => h) hF hS rfl rfl rfl (fun a hF => ?_)
                  refine r_no (b := false) (i := 22) rfl (by kernel_rfl) (by kernel_rfl) rfl (by kernel_rfl) (fun _ _ _ _ h => h) hF hS rfl rfl rfl (fun a hF => ?_)
                  refine r_no (b := false) (i := 23) rfl (by kernel_rfl) (by kernel_rfl) rfl (by kernel_rfl) (fun _ _ _ _ h => h) hF hS rfl rfl rfl (fun a hF => ?_)
                  refine r_no (b := false) (i := 24) rfl (by kernel_rfl) (by kernel_rfl) rfl (by kernel_rfl) (fun _ _ _ _ h => h) hF hS rfl rfl rfl (fun a hF => ?_)
                  refine r_no (b := false) (i := 25) rfl (by kernel_rfl) (by kernel_rfl) rfl (by kernel_rfl) (fun _ _ _ _ h => h) hF hS rfl rfl rfl (fun a hF => ?_)
                  refine r_nou (i := 26) rfl (by kernel_rfl) (by kernel_rfl) rfl (by kernel_rfl) (fun _ _ _ _ h => h) hF hS rfl rfl (fun a hF => ?_)
                  refine r_nou (i := 27) rfl (by kernel_rfl) (by kernel_rfl) rfl (by kernel_rfl) (fun _ _ _ _ h => h) hF hS rfl rfl (fun a hF => ?_)
                  refine r_nou (i := 28) rfl (by kernel_rfl) (by kernel_rfl) rfl (by kernel_rfl) (fun _ _ _ _ h => h) hF hS rfl rfl (fun a hF => ?_)
                  refine r_nou (i := 29) rfl (by kernel_rfl) (by kernel_rfl) rfl (by kernel_rfl) (fun _ _ _ _ h => h) hF hS rfl rfl (fun a hF => ?_)
                  refine r_nou (i := 30) rfl (by kernel_rfl) (by kernel_rfl) rfl (by kernel_rfl) (fun _ _ _ _ h => h) hF hS rfl rfl (fun a hF => ?_)
                  refine r_nou (i := 31) rfl (by kernel_rfl) (by kernel_rfl) rfl (by kernel_rfl) (fun _ _ _ _ h => h) hF hS rfl rfl (fun a hF => ?_)
                  refine r_nou (i := 32) rfl (by kernel_rfl) (by kernel_rfl) rfl (by kernel_rfl) (fun _ _ _ _ h => h) hF hS rfl rfl (fun a hF => ?_)
                  refine r_no (b := false) (i := 33) rfl (by kernel_rfl) (by kernel_rfl) rfl (by kernel_rfl) (fun _ _ _ _ h => h) hF hS rfl rfl rfl (fun a hF => ?_)
                  refine r_no (b := false) (i := 34) rfl (by kernel_rfl) (by kernel_rfl) rfl (by kernel_rfl) (fun _ _ _ _ h => h) hF hS rfl rfl rfl (fun a hF => ?_)
                  refine r_nou (i := 35) rfl (by kernel_rfl) (by kernel_rfl) rfl (by kernel_rfl) (fun _ _ _ _ h => h) hF hS rfl rfl (fun a hF => ?_)
                  refine r_nou (i := 36) rfl (by kernel_rfl) (by kernel_rfl) rfl (by kernel_rfl) (fun _ _ _ _ h => h) hF hS rfl rfl (fun a hF => ?_)
                  refine r_nou (i := 37) rfl (by kernel_rfl) (by kernel_rfl) rfl (by kernel_rfl) (fun _ _ _ _ h => h) hF hS rfl rfl (fun a hF => ?_)
                  refine r_nou (i := 38) rfl (by kernel_rfl) (by kernel_rfl) rfl (by kernel_rfl) (fun _ _ _ _ h => h) hF hS rfl rfl (fun a hF => ?_)
                  refine r_nou (i := 39) rfl (by kernel_rfl) (by kernel_rfl) rfl (by kernel_rfl) (fun _ _ _ _ h => h) hF hS rfl rfl (fun a hF => ?_)
                  refine r_nou (i := 40) rfl (by kernel_rfl) (by kernel_rfl) rfl (by kernel_rfl) (fun _ _ _ _ h => h) hF hS rfl rfl (fun a hF => ?_)
                  refine r_nou (i := 41) rfl (by kernel_rfl) (by kernel_rfl) rfl (by kernel_rfl) (fun _ _ _ _ h => h) hF hS rfl rfl (fun a hF => ?_)
                  refine r_nou (i := 42) rfl (by kernel_rfl) (by kernel_rfl) rfl (by kernel_rfl) (fun _ _ _ _ h => h) hF hS rfl rfl (fun a hF => ?_)
                  refine r_nou (i := 43) rfl (by kernel_rfl) (by kernel_rfl) rfl (by kernel_rfl) (fun _ _ _ _ h => h) hF hS rfl rfl (fun a hF => ?_)
                  refine r_nou (i := 44) rfl (by kernel_rfl) (by kernel_rfl) rfl (by kernel_rfl) (fun _ _ _ _ h => h) hF hS rfl rfl (fun a hF => ?_)
                  refine r_nou (i := 45) rfl (by kernel_rfl) (by kernel_rfl) rfl (by kernel_rfl) (fun _ _ _ _ h => h) hF hS rfl rfl (fun a hF => ?_)
                  refine r_no (b := false) (i := 46) rfl (by kernel_rfl) (by kernel_rfl) rfl (by kernel_rfl) (fun _ _ _ _ h => h) hF hS rfl rfl rfl (fun a hF => ?_)
                  refine r_no (b := false) (i := 47) rfl (by kernel_rfl) (by kernel_rfl) rfl (by kernel_rfl) (fun _ _ _ _ h => h) hF hS rfl rfl rfl (fun a hF => ?_)
                  refine r_nou (i := 48) rfl (by kernel_rfl) (by kernel_rfl) rfl (by kernel_rfl) (fun _ _ _ _ h => h) hF hS rfl rfl (fun a hF => ?_)
                  refine r_nou (i := 49) rfl (by kernel_rfl) (by kernel_rfl) rfl (by kernel_rfl) (fun _ _ _ _ h => h) hF hS rfl rfl (fun a hF => ?_)
                  refine r_nou (i := 50) rfl (by kernel_rfl) (by kernel_rfl) rfl (by kernel_rfl) (fun _ _ _ _ h => h) hF hS rfl rfl (fun a hF => ?_)
                  refine r_nou (i := 51) rfl (by kernel_rfl) (by kernel_rfl) rfl (by kernel_rfl) (fun _ _ _ _ h => h) hF hS rfl rfl (fun a hF => ?_)
                  refine r_nou (i := 52) rfl (by kernel_rfl) (by kernel_rfl) rfl (by kernel_rfl) (fun _ _ _ _ h => h) hF hS rfl rfl (fun a hF => ?_)
                  refine r_nou (i := 53) rfl (by kernel_rfl) (by kernel_rfl) rfl (by kernel_rfl) (fun _ _ _ _ h => h) hF hS rfl rfl (fun a hF => ?_)
                  refine r_no (b := false) (i := 54) rfl (by kernel_rfl) (by kernel_rfl) rfl (by kernel_rfl) (fun _ _ _ _ h => h) hF hS rfl rfl rfl (fun a hF => ?_)
                  refine r_qg (i := 55) rfl (by kernel_rfl) (by kernel_rfl) rfl (by kernel_rfl) (fun _ _ _ _ h => h) hF hS rfl (q_pick (b := false) rfl rfl) rfl (fun a hF => ?_)
                  refine r_q (i := 56) rfl (by kernel_rfl) (by kernel_rfl) rfl (by kernel_rfl) (fun _ _ _ _ h => h) hF hS (q_pick (b := false) rfl rfl) rfl (fun a hF => ?_)
                  refine r_done (by kernel_rfl) ?_
                  refine hK83 _ _ ?_
                  refine c_false hF rfl ?_
                  refine wp_skip ?_
                  refine hK80 _ _ ?_
                  refine c_reg ?_
                  refine n_q hF hS (q_addI rfl rfl (by omega)) rfl (fun a hF => ?_)
                  refine n_q hF hS (q_move rfl) rfl (fun a hF => ?_)
                  exact ⟨i + 1, _, (by show es.length - (i + 1) < es.length - i; omega), hl3, hF.back ⟨rfl, trivial⟩ rfl (by repeat first | exact Ext.refl _ _ | refine Ext.rem' rfl ?_ | refine Ext.push rfl ?_), hS.lose (.refl _), (by show i + 1 ≤ es.length; omega)⟩
                · refine r_no (b := false) (i := 3) rfl (by kernel_rfl) (by kernel_rfl) rfl (by kernel_rfl) (fun _ _ _ _ h => h) hF hS rfl rfl rfl (fun a hF => ?_)
                  refine r_no (b := false) (i := 4) rfl (by kernel_rfl) (by kernel_rfl) rfl (by kernel_rfl) (fun _ _ _ _ h => h) hF hS rfl rfl rfl (fun a hF => ?_)
                  refine r_no (b := false) (i := 5) rfl (by kernel_rfl) (by kernel_rfl) rfl (by kernel_rfl) (fun _ _ _ _ h => h) hF hS rfl rfl rfl (fun a hF => ?_)
                  refine r_no (b := false) (i := 6) rfl (by kernel_rfl) (by kernel_rfl) rfl (by kernel_rfl) (fun _ _ _ _ h => h) hF hS rfl rfl rfl (fun a hF => ?_)
                  refine r_no (b := false) (i := 7) rfl (by kernel_rfl) (by kernel_rfl) rfl (by kernel_rfl) (fun _ _ _ _ h => h) hF hS rfl rfl rfl (fun a hF => ?_)
                  refine r_no (b := false) (i := 8) rfl (by kernel_rfl) (by kernel_rfl) rfl (by kernel_rfl) (fun _ _ _ _ h => h) hF hS rfl rfl rfl (fun a hF => ?_)
                  refine r_no (b := false) (i := 9) rfl (by kernel_rfl) (by kernel_rfl) rfl (by kernel_rfl) (fun _ _ _ _ h => h) hF hS rfl rfl rfl (fun a hF => ?_)
                  refine r_no (b := false) (i := 10) rfl (by kernel_rfl) (by kernel_rfl) rfl (by kernel_rfl) (fun _ _ _ _ h => h) hF hS rfl rfl rfl (fun a hF => ?_)
                  refine r_no (b := false) (i := 11) rfl (by kernel_rfl) (by kernel_rfl) rfl (by kernel_rfl) (fun _ _ _ _ h => h) hF hS rfl rfl rfl (fun a hF => ?_)
                  refine r_no (b := false) (i := 12) rfl (by kernel_rfl) (by kernel_rfl) rfl (by kernel_rfl) (fun _ _ _ _ h => h) hF hS rfl rfl rfl (fun a hF => ?_)
                  refine r_no (b := false) (i := 13) rfl (by kernel_rfl) (by kernel_rfl) rfl (by kernel_rfl) (fun _ _ _ _ h => h) hF hS rfl rfl rfl (fun a hF => ?_)
                  refine r_no (b := false) (i := 14) rfl (by kernel_rfl) (by kernel_rfl) rfl (by kernel_rfl) (fun _ _ _ _ h => h) hF hS rfl rfl rfl (fun a hF => ?_)
                  refine r_q (i := 15) rfl (by kernel_rfl) (by kernel_rfl) rfl (by kernel_rfl) (fun _ _ _ _ h => h) hF hS (q_pick (b := false) rfl rfl) rfl (fun a hF => ?_)
                  refine r_q (i := 16) rfl (by kernel_rfl) (by kernel_rfl) rfl (by kernel_rfl) (fun _ _ _ _ h => h) hF hS (q_move rfl) rfl (fun a hF => ?_)
                  refine r_qg (i := 17) rfl (by kernel_rfl) (by kernel_rfl) rfl (by kernel_rfl) (fun _ _ _ _ h => h) hF hS rfl (q_move rfl) rfl (fun a hF => ?_)
                  refine r_qg (i := 18) rfl (by kernel_rfl) (by kernel_rfl) rfl (by kernel_rfl) (fun _ _ _ _ h => h) hF hS rfl (q_move rfl) rfl (fun a hF => ?_)
                  refine spT hF (s := 171) rfl (by exact hc155) (fun hF => ?_)
                  refine r_qg (i := 19) rfl (by kernel_rfl) (by kernel_rfl) rfl (by kernel_rfl) (fun _ _ _ _ h => h) hF hS rfl (q_move rfl) rfl (fun a hF => ?_)
                  refine r_qg (i := 20) rfl (by kernel_rfl) (by kernel_rfl) rfl (by kernel_rfl) (fun _ _ _ _ h => h) hF hS rfl (q_move rfl) rfl (fun a hF => ?_)
                  refine r_qg (i := 21) rfl (by kernel_rfl) (by kernel_rfl) rfl (by kernel_rfl) (fun _ _ _ _ h => h) hF hS rfl (q_indexAddrS Tryd.underlying31 ty48 rfl rfl (by omega) (hnil3)) rfl (fun a hF => ?_)
                  refine r_qg (i := 22) rfl (by kernel_rfl) (by kernel_rfl) rfl (by kernel_rfl) (fun _ _ _ _ h => h) hF hS rfl (q_fieldAddrE fl48_3 (by decide) rfl) rfl (fun a hF => ?_)
                  refine r_qg (i := 23) rfl (by kernel_rfl) (by kernel_rfl) rfl (by kernel_rfl) (fun _ _ _ _ h => h) hF hS rfl (q_loadL (off := 34) (i := i) (v := .bool e3.gone) ty4 rfl hrl3 hel3 (by decide) rfl (En.ld_go e3)) rfl (fun a hF => ?_)
                  refine r_qg (i := 24) rfl (by kernel_rfl) (by kernel_rfl) rfl (by kernel_rfl) (fun _ _ _ _ h => h) hF hS rfl (q_not rfl) rfl (fun a hF => ?_)
                  refine r_qg (i := 25) rfl (by kernel_rfl) (by kernel_rfl) rfl (by kernel_rfl) (fun _ _ _ _ h => h) hF hS rfl (q_move rfl) rfl (fun a hF => ?_)
                  refine rw_ hF (s := 178) (u := .bool false) rfl (by rw [(hhit hc146 hc155).1]; rfl) (fun hF => ?_)
                  refine r_qg (i := 26) rfl (by kernel_rfl) (by kernel_rfl) rfl (by kernel_rfl) (fun _ _ _ _ h => h) hF hS rfl (q_move rfl) rfl (fun a hF => ?_)
                  refine r_qg (i := 27) rfl (by kernel_rfl) (by kernel_rfl) rfl (by kernel_rfl) (fun _ _ _ _ h => h) hF hS rfl (q_move rfl) rfl (fun a hF => ?_)
                  refine r_qg (i := 28) rfl (by kernel_rfl) (by kernel_rfl) rfl (by kernel_rfl) (fun _ _ _ _ h => h) hF hS rfl (q_indexAddrS Tryd.underlying31 ty48 rfl rfl (by omega) (hnil3)) rfl (fun a hF => ?_)
                  refine r_qg (i := 29) rfl (by kernel_rfl) (by kernel_rfl) rfl (by kernel_rfl) (fun _ _ _ _ h => h) hF hS rfl (q_fieldAddrE fl48_2 (by decide) rfl) rfl (fun a hF => ?_)
                  refine r_qg (i := 30) rfl (by kernel_rfl) (by kernel_rfl) rfl (by kernel_rfl) (fun _ _ _ _ h => h) hF hS rfl (q_loadL (off := 33) (i := i) (v := .slice e3.da e3.dn e3.dp) ty46 rfl hrl3 hel3 (by decide) rfl (En.ld_da e3)) rfl (fun a hF => ?_)
                  refine r_qg (i := 31) rfl (by kernel_rfl) (by kernel_rfl) rfl (by kernel_rfl) (fun _ _ _ _ h => h) hF hS rfl (q_len Tryd.underlying46 rfl rfl) rfl (fun a hF => ?_)
                  refine r_qg (i := 32) rfl (by kernel_rfl) (by kernel_rfl) rfl (by kernel_rfl) (fun _ _ _ _ h => h) hF hS rfl (q_gtr rfl rfl) rfl (fun a hF => ?_)
                  refine r_qg (i := 33) rfl (by kernel_rfl) (by kernel_rfl) rfl (by kernel_rfl) (fun _ _ _ _ h => h) hF hS rfl (q_pick (b := false) rfl rfl) rfl (fun a hF => ?_)
                  refine r_qg (i := 34) rfl (by kernel_rfl) (by kernel_rfl) rfl (by kernel_rfl) (fun _ _ _ _ h => h) hF hS rfl (q_move rfl) rfl (fun a hF => ?_)
                  refine spF hF (s := 187) rfl (by rw [(hhit hc146 hc155).2.1]; decide) (fun hF => ?_)
                  refine r_qg (i := 35) rfl (by kernel_rfl) (by kernel_rfl) rfl (by kernel_rfl) (fun _ _ _ _ h => h) hF hS rfl (q_move rfl) rfl (fun a hF => ?_)
                  refine r_qg (i := 36) rfl (by kernel_rfl) (by kernel_rfl) rfl (by kernel_rfl) (fun _ _ _ _ h => h) hF hS rfl (q_move rfl) rfl (fun a hF => ?_)
                  refine r_qg (i := 37) rfl (by kernel_rfl) (by kernel_rfl) rfl (by kernel_rfl) (fun _ _ _ _ h => h) hF hS rfl (q_indexAddrS Tryd.underlying31 ty48 rfl rfl (by omega) (hnil3)) rfl (fun a hF => ?_)
                  refine r_qg (i := 38) rfl (by kernel_rfl) (by kernel_rfl) rfl (by kernel_rfl) (fun _ _ _ _ h => h) hF hS rfl (q_fieldAddrE fl48_1 (by decide) rfl) rfl (fun a hF => ?_)
                  refine r_qg (i := 39) rfl (by kernel_rfl) (by kernel_rfl) rfl (by kernel_rfl) (fun _ _ _ _ h => h) hF hS rfl (q_loadL (off := 1) (i := i) (v := .agg (dc e3.dg).toArray) ty35 rfl hrl3 hel3 (by decide) rfl (En.ld_dg e3)) rfl (fun a hF => ?_)
                  refine r_qg (i := 40) rfl (by kernel_rfl) (by kernel_rfl) rfl (by kernel_rfl) (fun _ _ _ _ h => h) hF hS rfl (q_move rfl) rfl (fun a hF => ?_)
                  refine r_qg (i := 41) rfl (by kernel_rfl) (by kernel_rfl) rfl (by kernel_rfl) (fun _ _ _ _ h => h) hF hS rfl (q_move rfl) rfl (fun a hF => ?_)
                  refine r_qg (i := 42) rfl (by kernel_rfl) (by kernel_rfl) rfl (by kernel_rfl) (fun _ _ _ _ h => h) hF hS rfl (q_indexAddrS Tryd.underlying31 ty48 rfl rfl (by omega) (hnil)) rfl (fun a hF => ?_)
                  refine r_qg (i := 43) rfl (by kernel_rfl) (by kernel_rfl) rfl (by kernel_rfl) (fun _ _ _ _ h => h) hF hS rfl (q_fieldAddrE fl48_1 (by decide) rfl) rfl (fun a hF => ?_)
                  refine r_qg (i := 44) rfl (by kernel_rfl) (by kernel_rfl) rfl (by kernel_rfl) (fun _ _ _ _ h => h) hF hS rfl (q_loadL (off := 1) (i := i) (v := .agg (dc e.dg).toArray) ty35 rfl hrl hel (by decide) rfl (En.ld_dg e)) rfl (fun a hF => ?_)
                  refine r_qg (i := 45) rfl (by kernel_rfl) (by kernel_rfl) rfl (by kernel_rfl) (fun _ _ _ _ h => h) hF hS rfl (q_neDg gu35 Tryd.underlying35 Tryd.underlying5 ty5 rfl rfl) rfl (fun a hF => ?_)
                  refine r_qg (i := 46) rfl (by kernel_rfl) (by kernel_rfl) rfl (by kernel_rfl) (fun _ _ _ _ h => h) hF hS rfl (q_pick (b := false) rfl rfl) rfl (fun a hF => ?_)
                  refine r_qg (i := 47) rfl (by kernel_rfl) (by kernel_rfl) rfl (by kernel_rfl) (fun _ _ _ _ h => h) hF hS rfl (q_move rfl) rfl (fun a hF => ?_)
                  refine rw_ hF (s := 200) (u := .bool false) rfl (by rw [decide_eq_true (show e3.dg = e.dg from by exact (hhit hc146 hc155).2.2.1)]; rfl) (fun hF => ?_)
                  refine r_qg (i := 48) rfl (by kernel_rfl) (by kernel_rfl) rfl (by kernel_rfl) (fun _ _ _ _ h => h) hF hS rfl (q_move rfl) rfl (fun a hF => ?_)
                  refine r_qg (i := 49) rfl (by kernel_rfl) (by kernel_rfl) rfl (by kernel_rfl) (fun _ _ _ _ h => h) hF hS rfl (q_move rfl) rfl (fun a hF => ?_)
                  refine r_qg (i := 50) rfl (by kernel_rfl) (by kernel_rfl) rfl (by kernel_rfl) (fun _ _ _ _ h => h) hF hS rfl (q_indexAddrS Tryd.underlying31 ty48 rfl rfl (by omega) (hnil3)) rfl (fun a hF => ?_)
                  refine r_qg (i := 51) rfl (by kernel_rfl) (by kernel_rfl) rfl (by kernel_rfl) (fun _ _ _ _ h => h) hF hS rfl (q_fieldAddrE fl48_0 (by decide) rfl) rfl (fun a hF => ?_)
                  refine r_qg (i := 52) rfl (by kernel_rfl) (by kernel_rfl) rfl (by kernel_rfl) (fun _ _ _ _ h => h) hF hS rfl (q_loadL (off := 0) (i := i) (v := .int .i64 e3.kind) ty3 rfl hrl3 hel3 (by decide) rfl rfl) rfl (fun a hF => ?_)
                  refine r_qg (i := 53) rfl (by kernel_rfl) (by kernel_rfl) rfl (by kernel_rfl) (fun _ _ _ _ h => h) hF hS rfl (q_neI rfl rfl) rfl (fun a hF => ?_)
                  refine r_qg (i := 54) rfl (by kernel_rfl) (by kernel_rfl) rfl (by kernel_rfl) (fun _ _ _ _ h => h) hF hS rfl (q_pick (b := false) rfl rfl) rfl (fun a hF => ?_)
                  refine r_qg (i := 55) rfl (by kernel_rfl) (by kernel_rfl) rfl (by kernel_rfl) (fun _ _ _ _ h => h) hF hS rfl (q_pick (b := true) rfl rfl) rfl (fun a hF => ?_)
                  refine r_q (i := 56) rfl (by kernel_rfl) (by kernel_rfl) rfl (by kernel_rfl) (fun _ _ _ _ h => h) hF hS (q_pick (b := false) rfl rfl) rfl (fun a hF => ?_)
                  refine r_done (by kernel_rfl) ?_
                  refine hK83 _ _ ?_
                  refine rw_ hF (s := 209) (u := .bool false) rfl (by rw [decide_eq_true (show e3.kind = 4 from by exact (hhit hc146 hc155).2.2.2)]; rfl) (fun hF => ?_)
                  refine c_false hF rfl ?_
                  refine wp_skip ?_
                  refine hK80 _ _ ?_
                  refine c_reg ?_
                  refine n_q hF hS (q_addI rfl rfl (by omega)) rfl (fun a hF => ?_)
                  refine n_q hF hS (q_move rfl) rfl (fun a hF => ?_)
                  exact ⟨i + 1, _, (by show es.length - (i + 1) < es.length - i; omega), hl3, hF.back ⟨rfl, trivial⟩ rfl (by repeat first | exact Ext.refl _ _ | refine Ext.rem' rfl ?_ | refine Ext.push rfl ?_), hS.lose (.refl _), (by show i + 1 ≤ es.length; omega)⟩
              · refine n_no hF (b := false) rfl rfl rfl (fun a hF => ?_)
                refine n_no hF (b := false) rfl rfl rfl (fun a hF => ?_)
                refine n_no hF (b := false) rfl rfl rfl (fun a hF => ?_)
                refine n_no hF (b := false) rfl rfl rfl (fun a hF => ?_)
                refine n_no hF (b := false) rfl rfl rfl (fun a hF => ?_)
                refine n_q hF hS (q_pick (b := false) rfl rfl) rfl (fun a hF => ?_)
                refine n_q hF hS (q_assign rfl) rfl (fun a hF => ?_)
                refine hK82 _ _ ?_
                refine c_seq (fun K85 hK85 => ?_)
                have hhit : (k : Int) = x.fo → (i : Int) + 1 = x.no → (e3.gone = true ∧ e3.dn = 0 ∧ e3.dg = e.dg ∧ e3.kind = 4) := fun hkf hi => by
                  rw [if_pos hkf, ← hkf] at hkl3
                  have hp : (x.no - 1).toNat = i := by omega
                  rw [hp] at hkl3
                  have h9 := del_hit hkl hkl3 he? he3?
                  rw [hp, ← hkf] at heh
                  have h8 : eh = e.key := Option.some.inj (heh.symm.trans (key_at hkl he?))
                  refine ⟨congrArg (·.2.2.2) h9, ?_, congrArg (·.2.1) h9, ?_⟩
                  · have hbs : e3.bs = [] := congrArg (·.2.2.1) h9
                    have h7 := dn_bs (hol3 e3 (List.mem_of_getElem? he3?)).1
                    rw [hbs] at h7; exact h7
                  · have h7 : e3.kind = e.kind := congrArg (·.1) h9
                    rw [h7]; have h6 := heh4; rw [h8] at h6; exact h6
                refine r_start (fun L => L) [] mo hS (fun w hS => ?_)
                refine r_q (i := 0) rfl (by kernel_rfl) (by kernel_rfl) rfl (by kernel_rfl) (fun _ _ _ _ h => h) hF hS (q_move rfl) rfl (fun a hF => ?_)
                refine r_q (i := 1) rfl (by kernel_rfl) (by kernel_rfl) rfl (by kernel_rfl) (fun _ _ _ _ h => h) hF hS (q_not rfl) rfl (fun a hF => ?_)
                refine r_q (i := 2) rfl (by kernel_rfl) (by kernel_rfl) rfl (by kernel_rfl) (fun _ _ _ _ h => h) hF hS (q_move rfl) rfl (fun a hF => ?_)
                refine r_qg (i := 3) rfl (by kernel_rfl) (by kernel_rfl) rfl (by kernel_rfl) (fun _ _ _ _ h => h) hF hS rfl (q_move rfl) rfl (fun a hF => ?_)
                refine r_qg (i := 4) rfl (by kernel_rfl) (by kernel_rfl) rfl (by kernel_rfl) (fun _ _ _ _ h => h) hF hS rfl (q_move rfl) rfl (fun a hF => ?_)
                refine r_qg (i := 5) rfl (by kernel_rfl) (by kernel_rfl) rfl (by kernel_rfl) (fun _ _ _ _ h => h) hF hS rfl (q_move rfl) rfl (fun a hF => ?_)
                refine r_qg (i := 6) rfl (by kernel_rfl) (by kernel_rfl) rfl (by kernel_rfl) (fun _ _ _ _ h => h) hF hS rfl (q_addI rfl rfl (by omega)) rfl (fun a hF => ?_)
                refine r_qg (i := 7) rfl (by kernel_rfl) (by kernel_rfl) rfl (by kernel_rfl) (fun _ _ _ _ h => h) hF hS rfl (q_cast (u := .slice (cutA al3 c3 i 35) 1 (c3 - i)) (q_sliceLH (l := i) (h := i + 1) Tryd.underlying31 ty48 rfl rfl rfl (by omega) (by omega)) (by rw [Nat.add_sub_cancel_left])) rfl (fun a hF => ?_)
                refine r_qg (i := 8) rfl (by kernel_rfl) (by kernel_rfl) rfl (by kernel_rfl) (fun _ _ _ _ h => h) hF hS rfl (q_move rfl) rfl (fun a hF => ?_)
                refine r_qg (i := 9) rfl (by kernel_rfl) (by kernel_rfl) rfl (by kernel_rfl) (fun _ _ _ _ h => h) hF hS rfl (q_move rfl) rfl (fun a hF => ?_)
                refine r_qg (i := 10) rfl (by kernel_rfl) (by kernel_rfl) rfl (by kernel_rfl) (fun _ _ _ _ h => h) hF hS rfl (q_move rfl) rfl (fun a hF => ?_)
                refine r_qg (i := 11) rfl (by kernel_rfl) (by kernel_rfl) rfl (by kernel_rfl) (fun _ _ _ _ h => h) hF hS rfl (q_addI rfl rfl (by omega)) rfl (fun a hF => ?_)
                refine r_qg (i := 12) rfl (by kernel_rfl) (by kernel_rfl) rfl (by kernel_rfl) (fun _ _ _ _ h => h) hF hS rfl (q_cast (u := .slice (cutA al0 c0 i 35) 1 (c0 - i)) (q_sliceLH (l := i) (h := i + 1) Tryd.underlying31 ty48 rfl rfl rfl (by omega) (by omega)) (by rw [Nat.add_sub_cancel_left])) rfl (fun a hF => ?_)
                refine r_one (i := 13) (by kernel_rfl) ?_
                have hsub := hS.sub
                refine r_lig rfl rfl hF rfl (fun K86 hK86 => l_call en24 hF rfl rfl (SameEntries_c [e3] [e] (cutA al3 c3 i 35) (cutA al0 c0 i 35) (c3 - i) (c0 - i) (by show 1 ≤ 1000000; decide) _ _ hS.fz (rd_one hrl3 he3? (by omega)) (rd_one hrl he? (by omega)) (hol3.one he3?) (hol.one he?)) (fun v86 w hR a hF => ?_))
                obtain ⟨rfl, hc⟩ := hR
                replace hS := hS.call0 hc
                have hmiss : e3.key = e.key := by
                  by_cases hkf : (k : Int) = x.fo
                  · rw [if_pos hkf, ← hkf] at hkl3
                    exact del_miss hkl hkl3 he? he3? (by omega)
                  · rw [if_neg hkf] at hkl3
                    exact Option.some.inj ((key_at hkl3 he3?).symm.trans (key_at hkl he?))
                refine hK86 _ _ _ hS (fun _ h => h) ?_
                refine r_qg (i := 14) rfl (by kernel_rfl) (by kernel_rfl) rfl (by kernel_rfl) (fun _ _ _ _ h => h) hF hS rfl (q_not rfl) rfl (fun a hF => ?_)
                refine r_q (i := 15) rfl (by kernel_rfl) (by kernel_rfl) rfl (by kernel_rfl) (fun _ _ _ _ h => h) hF hS (q_pick (b := true) rfl rfl) rfl (fun a hF => ?_)
                refine r_q (i := 16) rfl (by kernel_rfl) (by kernel_rfl) rfl (by kernel_rfl) (fun _ _ _ _ h => h) hF hS (q_move rfl) rfl (fun a hF => ?_)
                refine rw_ hF (s := 169) (u := .bool false) rfl (by rw [same_one hmiss]; rfl) (fun hF => ?_)
                refine r_qg (i := 17) rfl (by kernel_rfl) (by kernel_rfl) rfl (by kernel_rfl) (fun _ _ _ _ h => h) hF hS rfl (q_move rfl) rfl (fun a hF => ?_)
                refine r_qg (i := 18) rfl (by kernel_rfl) (by kernel_rfl) rfl (by kernel_rfl) (fun _ _ _ _ h => h) hF hS rfl (q_move rfl) rfl (fun a hF => ?_)
                refine r_no (b := false) (i := 19) rfl (by kernel_rfl) (by kernel_rfl) rfl (by kernel_rfl) (fun _ _ _ _ h => h) hF hS rfl rfl rfl (fun a hF => ?_)
                refine r_no (b := false) (i := 20) rfl (by kernel_rfl) (by kernel_rfl) rfl (by kernel_rfl) (fun _ _ _ _ h => h) hF hS rfl rfl rfl (fun a hF => ?_)
                refine r_no (b := false) (i := 21) rfl (by kernel_rfl) (by kernel_rfl) rfl (by kernel_rfl) (fun _ _ _ _ h => h) hF hS rfl rfl rfl (fun a hF => ?_)
                refine r_no (b := false) (i := 22) rfl (by kernel_rfl) (by kernel_rfl) rfl (by kernel_rfl) (fun _ _ _ _ h => h) hF hS rfl rfl rfl (fun a hF => ?_)
                refine r_no (b := false) (i := 23) rfl (by kernel_rfl) (by kernel_rfl) rfl (by kernel_rfl) (fun _ _ _ _ h => h) hF hS rfl rfl rfl (fun a hF => ?_)
                refine r_no (b := false) (i := 24) rfl (by kernel_rfl) (by kernel_rfl) rfl (by kernel_rfl) (fun _ _ _ _ h => h) hF hS rfl rfl rfl (fun a hF => ?_)
                refine r_no (b := false) (i := 25) rfl (by kernel_rfl) (by kernel_rfl) rfl (by kernel_rfl) (fun _ _ _ _ h => h) hF hS rfl rfl rfl (fun a hF => ?_)
                refine r_nou (i := 26) rfl (by kernel_rfl) (by kernel_rfl) rfl (by kernel_rfl) (fun _ _ _ _ h => h) hF hS rfl rfl (fun a hF => ?_)
                refine r_nou (i := 27) rfl (by kernel_rfl) (by kernel_rfl) rfl (by kernel_rfl) (fun _ _ _ _ h => h) hF hS rfl rfl (fun a hF => ?_)
                refine r_nou (i := 28) rfl (by kernel_rfl) (by kernel_rfl) rfl (by kernel_rfl) (fun _ _ _ _ h => h) hF hS rfl rfl (fun a hF => ?_)
                refine r_nou (i := 29) rfl (by kernel_rfl) (by kernel_rfl) rfl (by kernel_rfl) (fun _ _ _ _ h => h) hF hS rfl rfl (fun a hF => ?_)
                refine r_nou (i := 30) rfl (by kernel_rfl) (by kernel_rfl) rfl (by kernel_rfl) (fun _ _ _ _ h => h) hF hS rfl rfl (fun a hF => ?_)
                refine r_nou (i := 31) rfl (by kernel_rfl) (by kernel_rfl) rfl (by kernel_rfl) (fun _ _ _ _ h => h) hF hS rfl rfl (fun a hF => ?_)
                refine r_nou (i := 32) rfl (by kernel_rfl) (by kernel_rfl) rfl (by kernel_rfl) (fun _ _ _ _ h => h) hF hS rfl rfl (fun a hF => ?_)
                refine r_no (b := false) (i := 33) rfl (by kernel_rfl) (by kernel_rfl) rfl (by kernel_rfl) (fun _ _ _ _ h => h) hF hS rfl rfl rfl (fun a hF => ?_)
                refine r_no (b := false) (i := 34) rfl (by kernel_rfl) (by kernel_rfl) rfl (by kernel_rfl) (fun _ _ _ _ h => h) hF hS rfl rfl rfl (fun a hF => ?_)
                refine r_nou (i := 35) rfl (by kernel_rfl) (by kernel_rfl) rfl (by kernel_rfl) (fun _ _ _ _ h => h) hF hS rfl rfl (fun a hF => ?_)
                refine r_nou (i := 36) rfl (by kernel_rfl) (by kernel_rfl) rfl (by kernel_rfl) (fun _ _ _ _ h => h) hF hS rfl rfl (fun a hF => ?_)
                refine r_nou (i := 37) rfl (by kernel_rfl) (by kernel_rfl) rfl (by kernel_rfl) (fun _ _ _ _ h => h) hF hS rfl rfl (fun a hF => ?_)
                refine r_nou (i := 38) rfl (by kernel_rfl) (by kernel_rfl) rfl (by kernel_rfl) (fun _ _ _ _ h => h) hF hS rfl rfl (fun a hF => ?_)
                refine r_nou (i := 39) rfl (by kernel_rfl) (by kernel_rfl) rfl (by kernel_rfl) (fun _ _ _ _ h => h) hF hS rfl rfl (fun a hF => ?_)
                refine r_nou (i := 40) rfl (by kernel_rfl) (by kernel_rfl) rfl (by kernel_rfl) (fun _ _ _ _ h => h) hF hS rfl rfl (fun a hF => ?_)
                refine r_nou (i := 41) rfl (by kernel_rfl) (by kernel_rfl) rfl (by kernel_rfl) (fun _ _ _ _ h => h) hF hS rfl rfl (fun a hF => ?_)
                refine r_nou (i := 42) rfl (by kernel_rfl) (by kernel_rfl) rfl (by kernel_rfl) (fun _ _ _ _ h => h) hF hS rfl rfl (fun a hF => ?_)
                refine r_nou (i := 43) rfl (by kernel_rfl) (by kernel_rfl) rfl (by kernel_rfl) (fun _ _ _ _ h => h) hF hS rfl rfl (fun a hF => ?_)
                refine r_nou (i := 44) rfl (by kernel_rfl) (by kernel_rfl) rfl (by kernel_rfl) (fun _ _ _ _ h => h) hF hS rfl rfl (fun a hF => ?_)
                refine r_nou (i := 45) rfl (by kernel_rfl) (by kernel_rfl) rfl (by kernel_rfl) (fun _ _ _ _ h => h) hF hS rfl rfl (fun a hF => ?_)
                refine r_no (b := false) (i := 46) rfl (by kernel_rfl) (by kernel_rfl) rfl (by kernel_rfl) (fun _ _ _ _ h => h) hF hS rfl rfl rfl (fun a hF => ?_)
                refine r_no (b := false) (i := 47) rfl (by kernel_rfl) (by kernel_rfl) rfl (by kernel_rfl) (fun _ _ _ _ h => h) hF hS rfl rfl rfl (fun a hF => ?_)
                refine r_nou (i := 48) rfl (by kernel_rfl) (by kernel_rfl) rfl (by kernel_rfl) (fun _ _ _ _ h => h) hF hS rfl rfl (fun a hF => ?_)
                refine r_nou (i := 49) rfl (by kernel_rfl) (by kernel_rfl) rfl (by kernel_rfl) (fun _ _ _ _ h => h) hF hS rfl rfl (fun a hF => ?_)
                refine r_nou (i := 50) rfl (by kernel_rfl) (by kernel_rfl) rfl (by kernel_rfl) (fun _ _ _ _ h => h) hF hS rfl rfl (fun a hF => ?_)
                refine r_nou (i := 51) rfl (by kernel_rfl) (by kernel_rfl) rfl (by kernel_rfl) (fun _ _ _ _ h => h) hF hS rfl rfl (fun a hF => ?_)
                refine r_nou (i := 52) rfl (by kernel_rfl) (by kernel_rfl) rfl (by kernel_rfl) (fun _ _ _ _ h => h) hF hS rfl rfl (fun a hF => ?_)
                refine r_nou (i := 53) rfl (by kernel_rfl) (by kernel_rfl) rfl (by kernel_rfl) (fun _ _ _ _ h => h) hF hS rfl rfl (fun a hF => ?_)
                refine r_no (b := false) (i := 54) rfl (by kernel_rfl) (by kernel_rfl) rfl (by kernel_rfl) (fun _ _ _ _ h => h) hF hS rfl rfl rfl (fun a hF => ?_)
                refine r_qg (i := 55) rfl (by kernel_rfl) (by kernel_rfl) rfl (by kernel_rfl) (fun _ _ _ _ h => h) hF hS rfl (q_pick (b := false) rfl rfl) rfl (fun a hF => ?_)
                refine r_q (i := 56) rfl (by kernel_rfl) (by kernel_rfl) rfl (by kernel_rfl) (fun _ _ _ _ h => h) hF hS (q_pick (b := false) rfl rfl) rfl (fun a hF => ?_)
                refine r_done (by kernel_rfl) ?_
                refine hK85 _ _ ?_
                refine c_false hF rfl ?_
                refine wp_skip ?_
                refine hK80 _ _ ?_
                refine c_reg ?_
                refine n_q hF hS (q_addI rfl rfl (by omega)) rfl (fun a hF => ?_)
                refine n_q hF hS (q_move rfl) rfl (fun a hF => ?_)
                exact ⟨i + 1, _, (by show es.length - (i + 1) < es.length - i; omega), hl3, hF.back ⟨rfl, trivial⟩ rfl (by repeat first | exact Ext.refl _ _ | refine Ext.rem' rfl ?_ | refine Ext.push rfl ?_), hS.lose (.refl _), (by show i + 1 ≤ es.length; omega)⟩
            · refine c_false hF rfl ?_
              refine c_exit ?_
              refine hK26 _ _ ?_
              refine c_reg ?_
              refine n_q hF hS (q_addI rfl rfl (by omega)) rfl (fun a hF => ?_)
              refine n_q hF hS (q_move rfl) rfl (fun a hF => ?_)
              exact ⟨k + 1, _, (by show 16 - (k + 1) < 16 - k; omega), hl0, hF.back ⟨rfl, trivial⟩ rfl (by repeat first | exact Ext.refl _ _ | refine Ext.rem' rfl ?_ | refine Ext.push rfl ?_), hS.lose (.refl _), (by show k + 1 ≤ 16; omega)⟩
      · refine c_false hF rfl ?_
        refine c_exit ?_
        refine hK22 _ _ ?_
        refine c_seq (fun K87 hK87 => ?_)
        refine c_reg ?_
        refine n_q hF hS (q_assign rfl) rfl (fun a hF => ?_)
        refine hK87 _ _ ?_
        refine c_ret ?_
        repeat (first | refine ret_then ?_ | refine ret_blk ?_)
        refine c_ret' (P := Tryd.prog) (fn := Tryd.f5) rfl hF hS (.tmp rfl .nil) ⟨_, rfl, ?_⟩
        exact ⟨rfl, hS.same⟩
end Go.Proofs.YtneokajhmonpaaaDoor
/- StoreApart: whatever the steps and the further step: the law answers true, and its arguments read as they did. CONDITION: the two tables of package digest read as the program's text lays them (the card ties that). -/
namespace Go.Proofs.YtneokajhmonpaaaDoor
open Go Go.RowKit Go.W Go.ChangeShapes Go.WideShapes
set_option maxRecDepth 100000
theorem apart_lifted (os : Os) (started : os.Started) (H : Type) (enc : TypeId × Value → H) :
    ReturnsInHanded {} Tryd.checked os 5 .any (fun w args => (Rows.storeApartSpec.pre enc Tryd.prog Tryd.f5 [] false w args ∧ laidMetH Tryd.prog Fin.laid2 w) ∧ sizedMet enc Tryd.prog Tryd.f5 (OpenSpec.ofChange Rows.storeApartSpec) false w args)
      (Rows.storeApartSpec.post enc Tryd.prog Tryd.f5 false true false false) := by
  refine returnsInHanded_of_change_and (C := Tryd.checked) (X := fun w _ => laidMetH Tryd.prog Fin.laid2 w) (fun _ _ _ hh h => h.of_heap hh) Fin.own started (by kernel_rfl) Tryd.func5
    (ChangeSpec.witness_shaped (enc := enc) (C := Tryd.checked) (os := os) (X := fun w _ => laidMetH Tryd.prog Fin.laid2 w) false (World.doorLaid Tryd.prog 4000 os) #[.slice none 0 0, .agg #[.int .i64 0, .int .i64 0, .int .i64 0, .slice none 0 0]] 8 rfl (World.shaped_of_RefB (by kernel_rfl) (by kernel_rfl)) (by kernel_rfl) (by kernel_rfl) (by kernel_rfl) (Fin.door_met os _)) ?_
  intro W base args ds gs before hval0 hW _ _ hL _
  have hval : ∀ (j : Nat) t v, Tryd.f5.params[j]? = some t → args[j]? = some v → Value.okWide Tryd.prog W .any base t v := hval0
  have hW' : DataW.Whole enc Tryd.prog Tryd.f5.params.toList Rows.storeApartSpec.vars false W args.toList ds gs before := hW
  obtain ⟨p, q, hA0, hV, rfl, hfz, hnd⟩ := hW
  have hA : DataW.TrodAll enc Tryd.prog W 0 (fun _ => true) true Tryd.f5.params.toList args.toList ds p := hA0
  rw [Tryd.params5] at hA hval
  obtain ⟨v0, v1, d0, d1, p0, p1, rfl, rfl, rfl, h0, h1⟩ := trodAll_two hA
  obtain ⟨n0, h0⟩ := h0
  obtain ⟨n1, h1⟩ := h1
  obtain ⟨al, xs, cl, e0, _, _, hr, ho⟩ := trod_steps (t3 := 3) (tb := 46) (te := 5) (by simp) Tryd.underlying22 Tryd.underlying58 Tryd.underlying3 Tryd.underlying46 Tryd.underlying5 Fin.c58 Fin.c3 Fin.c46 Fin.c5 h0
  obtain rfl : v0 = .slice al xs.length cl := by obtain ⟨_, _, _, e⟩ := okWide_slice Tryd.underlying22 (hval 0 22 v0 rfl rfl); exact one_slice e e0
  obtain ⟨cs1, rfl, _⟩ : ∃ cs, v1 = .agg cs ∧ True := by
    have h := hval 1 58 v1 rfl rfl
    unfold Value.okWide at h
    rw [Tryd.underlying58] at h
    obtain ⟨cs, h, _⟩ := h
    exact ⟨cs, h, trivial⟩
  obtain ⟨x, e1, hx, hxn⟩ := trod_sp (t3 := 3) (tb := 46) (te := 5) (by simp) Tryd.underlying58 Tryd.underlying3 Tryd.underlying46 Tryd.underlying5 Fin.c58 Fin.c3 Fin.c46 Fin.c5 h1
  obtain rfl : cs1 = x.c.toArray := by rw [← e1]; rfl
  refine Calls.mono (StoreApart_c xs al cl x W (HW W) (HW.fz W) (Fin.gl hL) hr ho hx hxn) ?_
  rintro e W' ⟨v, rfl, rfl, hS⟩
  exact ⟨_, rfl, post_true Fin.kids Fin.full (fun t ht => by
    have h9 : (Tryd.f5.params.toList.all fun t => decide (t < Tryd.prog.types.size)) = true := by kernel_rfl
    exact of_decide_eq_true (List.all_eq_true.1 h9 t ht)) Tryd.underlying4 (by kernel_rfl) rfl hW' (fun gs hg => by rw [hg]; rfl) hS⟩
theorem apart_holds : Rows.StoreApartSaid :=
  OpenClaim.holds_of_wide 5 Tryd.f5 rfl rfl rfl rfl rfl rfl rfl ⟨rfl, rfl, rfl, rfl, rfl⟩ rfl rfl rfl rfl rfl (by kernel_rfl) Tryd.func5 (by kernel_rfl)
    (of_decide_eq_true (by kernel_rfl)) (by unfold Func.isWrapper; first | (rw [if_pos (by decide +kernel)]; kernel_rfl) | (rw [if_neg (by decide +kernel)]; exact ⟨rfl, rfl⟩))
    (fun os started H enc _ => apart_lifted os started H enc)
theorem apart_card : Rows.StoreApartCardSaid :=
  Claim7.holds_tied_plain_at .later [] [.data, .data] true (true, "4304e63d1c3e393a269d5c046be61e81812452e54d48abbd1eff1f8f380bf226") false
    apart_holds (fun _ h => by cases h) (by kernel_rfl) (fun _ h => by cases h) storeApart_row_tie rfl ⟨rfl, rfl⟩ (by kernel_rfl) rfl
    (fun f fn hf hfn => by
      obtain rfl : f = 5 := Option.some.inj ((show Tryd.prog.funcNamed "chartroom/chartroomlaw30.StoreApart" = some 5 by kernel_rfl).symm.trans hf) |>.symm
      obtain rfl : fn = Tryd.f5 := (Option.some.inj (Tryd.func5.symm.trans hfn)).symm
      exact ⟨by kernel_rfl, fun j t ht => by
        rw [Tryd.params5] at ht
        have hm : t ∈ [22, 58] := by simpa using Array.mem_of_getElem? ht
        have hall : ([22, 58].all fun u => !Tryd.prog.wantsStandIn u) = true := by kernel_rfl
        exact (show Tryd.prog.wantsStandIn t = false by simpa using List.all_eq_true.1 hall t hm)⟩)
    (by kernel_rfl)
#print axioms apart_card
end Go.Proofs.YtneokajhmonpaaaDoor
