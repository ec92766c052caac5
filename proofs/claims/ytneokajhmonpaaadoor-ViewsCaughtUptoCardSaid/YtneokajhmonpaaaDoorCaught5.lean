import Derived.Test.YtneokajhmonpaaaDoorCaught4
import Derived.Test.YtneokajhmonpaaaDoorChecked
/- A part of the proofs of the statements about the chartroom program (YtneokajhmonpaaaDoor): the statement itself. -/
set_option linter.unusedSimpArgs false
set_option linter.unusedVariables false
namespace Go.Proofs.YtneokajhmonpaaaDoor
open Go Go.RowKit Go.W
set_option maxRecDepth 10000
open Fx

set_option maxHeartbeats 1600000 in
theorem Accept_c (v : Vw) (es : List En) (al : Option Addr) (cl : Nat) (h : Hd) (hn : es.length ≤ 1000000) (w : World) (H : Froz) (hz : Fz H w) (hg : Gl 0 1 H) (ho : VwOK H v) (hr : RdL H al 35 (enE es)) (hoe : EnsOK H es) :
    CallsR Tryd.prog 37 [.agg v.c.toArray, .slice al es.length cl, .agg h.c.toArray] w fun r w' => ∃ x f e H', r = .tuple #[.agg x.c.toArray, .agg f.c.toArray, .int .i64 e] ∧ Le H H' ∧ VwOK H' x ∧ FkOK H' f ∧ AccR v es h x f.key e ∧ St ⟨w, H, []⟩ H' [] w' := by
  refine calls_start Tryd.func37 rfl Tryd.ntmps37 rfl (fun a hF => ?_)
  have hS := St.start w H hz
  have hvd := ho.dlen
  have hvh := ho.hlen
  refine c_seq (fun K1 hK1 => ?_)
  refine c_reg ?_
  refine n_l rfl (fun K2 hK2 => l_boxA hF hS rfl rfl (fun a w b1 hF hS => hK2 _ _ ?_))
  refine n_l rfl (fun K3 hK3 => l_boxA hF hS rfl rfl (fun a w b2 hF hS => hK3 _ _ ?_))
  refine n_l rfl (fun K4 hK4 => l_alloc hF hS zr77 rfl (fun a w b3 hF hS => hK4 _ _ ?_))
  refine n_l rfl (fun K5 hK5 => l_alloc hF hS zr82 rfl (fun a w b4 hF hS => hK5 _ _ ?_))
  refine n_q hF hS (q_assign rfl) rfl (fun a hF => ?_)
  refine hK1 _ _ ?_
  refine c_seq (fun K6 hK6 => ?_)
  refine c_reg ?_
  obtain ⟨H_hbv, hH_hbv, hle_hbv, hS_hbv⟩ := hS.freeze' (i := 3) rfl
  replace hS := hS_hbv
  replace hg := hg.mono hle_hbv
  replace ho := ho.mono hle_hbv
  replace hr := hr.mono hle_hbv
  replace hoe := hoe.mono hle_hbv
  have hbv : HR H_hbv b1 v.c := by rw [hH_hbv]; exact frz_hr
  obtain ⟨H_hbh, hH_hbh, hle_hbh, hS_hbh⟩ := hS.freeze' (i := 2) rfl
  replace hS := hS_hbh
  replace hg := hg.mono hle_hbh
  replace ho := ho.mono hle_hbh
  replace hr := hr.mono hle_hbh
  replace hoe := hoe.mono hle_hbh
  replace hbv := hbv.mono hle_hbh
  have hbh : HR H_hbh b2 h.c := by rw [hH_hbh]; exact frz_hr
  refine n_q hF hS (q_loadG (o := 0) (v := .agg v.c.toArray) ty77 rfl hbv.h (Nat.le_of_ble_eq_true rfl) rfl rfl) rfl (fun a hF => ?_)
  refine n_q hF hS (q_build (P := Tryd.prog) (T := 134) (cs := [_, _, _, _, _]) zr134 pl134 rfl (by first | rfl | simp [bld, spl, dc_length, Hd.c_len, En.c_len, Fk.c_len, List.length_replicate, List.length_cons, List.length_nil, List.length_append])) rfl (fun a hF => ?_)
  refine n_l rfl (fun K7 hK7 => l_alloc hF hS zr134 rfl (fun a w b5 hF hS => hK7 _ _ ?_))
  refine n_l rfl (fun K8 hK8 => l_store0A ty134 hF hS rfl rfl (i := 0) rfl rfl rfl rfl (fun a w hF hS => hK8 _ _ ?_))
  refine hK6 _ _ ?_
  refine c_seq (fun K9 hK9 => ?_)
  refine c_seq (fun K10 hK10 => ?_)
  refine c_reg ?_
  obtain ⟨H_hbo, hH_hbo, hle_hbo, hS_hbo⟩ := hS.freeze' (i := 0) rfl
  replace hS := hS_hbo
  replace hg := hg.mono hle_hbo
  replace ho := ho.mono hle_hbo
  replace hr := hr.mono hle_hbo
  replace hoe := hoe.mono hle_hbo
  replace hbv := hbv.mono hle_hbo
  replace hbh := hbh.mono hle_hbo
  have hbo : HR H_hbo b5 v.c := by rw [hH_hbo]; exact frz_hr
  refine n_q hF hS (q_loadG (o := 0) (v := .agg v.c.toArray) ty134 rfl hbo.h (Nat.le_of_ble_eq_true rfl) rfl rfl) rfl (fun a hF => ?_)
  refine n_l rfl (fun K11 hK11 => l_call en73 hF rfl rfl (valid_v_c v _ _ hS.fz hg ho) (fun v11 w hR a hF => ?_))
  obtain ⟨rfl, hc⟩ := hR
  replace hS := hS.call0 hc
  refine hK11 _ _ ?_
  refine n_q hF hS (q_not rfl) rfl (fun a hF => ?_)
  refine n_q hF hS (q_move rfl) rfl (fun a hF => ?_)
  refine sp hF (s := 22) rfl (fun hc22 hF => ?_) (fun hc22 hF => ?_)
  refine n_no hF (b := true) rfl rfl rfl (fun a hF => ?_)
  refine n_no hF (b := true) rfl rfl rfl (fun a hF => ?_)
  refine n_no hF (b := true) rfl rfl rfl (fun a hF => ?_)
  refine n_no hF (b := true) rfl rfl rfl (fun a hF => ?_)
  refine n_q hF hS (q_pick (b := true) rfl rfl) rfl (fun a hF => ?_)
  refine n_q hF hS (q_move rfl) rfl (fun a hF => ?_)
  refine n_no hF (b := true) rfl rfl rfl (fun a hF => ?_)
  refine n_no hF (b := true) rfl rfl rfl (fun a hF => ?_)
  refine n_no hF (b := true) rfl rfl rfl (fun a hF => ?_)
  refine n_no hF (b := true) rfl rfl rfl (fun a hF => ?_)
  refine n_no hF (b := true) rfl rfl rfl (fun a hF => ?_)
  refine n_q hF hS (q_pick (b := true) rfl rfl) rfl (fun a hF => ?_)
  refine hK10 _ _ ?_
  refine c_true hF rfl ?_
  refine c_seq (fun K12 hK12 => ?_)
  refine r_start (fun L => L) [] mo hS (fun w hS => ?_)
  refine r_q (i := 0) rfl rfl hF hS (q_load0 ty77 rfl (i := 1) rfl rfl rfl) rfl (fun a hF => ?_)
  refine r_q (i := 1) rfl rfl hF hS (q_load0 ty82 rfl (i := 0) rfl (by simp [dc_length, Hd.c_len, En.c_len, Fk.c_len, List.length_replicate, List.length_cons, List.length_nil, List.length_append]) rfl) rfl (fun a hF => ?_)
  refine r_one (i := 2) (by kernel_rfl) ?_
  refine r_li rfl rfl (fun K13 hK13 => l_store0A ty77 hF hS rfl rfl (i := 1) rfl rfl rfl rfl (fun a w hF hS => hK13 _ _ _ hS (fun _ h => h) ?_))
  refine r_one (i := 3) (by kernel_rfl) ?_
  refine r_li rfl rfl (fun K14 hK14 => l_store0A ty82 hF hS rfl rfl (i := 0) rfl (by simp [dc_length, Hd.c_len, En.c_len, Fk.c_len, List.length_replicate, List.length_cons, List.length_nil, List.length_append]) (by simp [dc_length, Hd.c_len, En.c_len, Fk.c_len, List.length_replicate, List.length_cons, List.length_nil, List.length_append]) (by first | exact dc_all1 _ | rfl | simp [all1]) (fun a w hF hS => hK14 _ _ _ hS (fun _ h => h) ?_))
  refine r_q (i := 4) rfl rfl hF hS (q_assign rfl) rfl (fun a hF => ?_)
  refine r_done (by kernel_rfl) ?_
  refine hK12 _ _ ?_
  refine c_ret ?_
  repeat (first | refine ret_then ?_ | refine ret_blk ?_)
  refine c_ret' (P := Tryd.prog) (fn := Tryd.f37) rfl hF hS (.cell0 rfl ty77 (i := 1) rfl rfl rfl (.cell0 rfl ty82 (i := 0) rfl (by simp [dc_length, Hd.c_len, En.c_len, Fk.c_len, List.length_replicate, List.length_cons, List.length_nil, List.length_append]) rfl (.tmp rfl .nil))) ⟨_, rfl, ?_⟩
  have hb : ¬ GoodA v es h := fun q => by rw [tb_true q.1] at hc22; cases hc22
  exact ⟨zVw, zFk, 320, _, rfl, hS.le, VwOK.zero _, FkOK.zero _, .inl ⟨hb, rfl, rfl, rfl⟩, hS.nil⟩
  refine n_yes hF rfl ?_
  refine n_q hF hS (q_loadG (o := 0) (v := .agg v.c.toArray) ty134 rfl hbo.h (Nat.le_of_ble_eq_true rfl) rfl rfl) rfl (fun a hF => ?_)
  refine n_yes hF rfl ?_
  refine n_q hF hS (q_loadG (o := 0) (v := .agg h.c.toArray) ty39 rfl hbh.h (by rw [Hd.c_len]; decide) rfl (Hd.ld_all h)) rfl (fun a hF => ?_)
  refine n_yes hF rfl ?_
  refine n_l rfl (fun K15 hK15 => l_call en75 hF rfl rfl (owns_c v h _ _ hS.fz hg) (fun v15 w hR a hF => ?_))
  obtain ⟨rfl, hc⟩ := hR
  replace hS := hS.call0 hc
  refine hK15 _ _ ?_
  refine n_yes hF rfl ?_
  refine n_q hF hS (q_not rfl) rfl (fun a hF => ?_)
  refine n_q hF hS (q_pick (b := false) rfl rfl) rfl (fun a hF => ?_)
  refine n_q hF hS (q_move rfl) rfl (fun a hF => ?_)
  refine sp hF (s := 28) rfl (fun hc28 hF => ?_) (fun hc28 hF => ?_)
  refine n_no hF (b := true) rfl rfl rfl (fun a hF => ?_)
  refine n_no hF (b := true) rfl rfl rfl (fun a hF => ?_)
  refine n_no hF (b := true) rfl rfl rfl (fun a hF => ?_)
  refine n_no hF (b := true) rfl rfl rfl (fun a hF => ?_)
  refine n_no hF (b := true) rfl rfl rfl (fun a hF => ?_)
  refine n_q hF hS (q_pick (b := true) rfl rfl) rfl (fun a hF => ?_)
  refine hK10 _ _ ?_
  refine c_true hF rfl ?_
  refine c_seq (fun K16 hK16 => ?_)
  refine r_start (fun L => L) [] mo hS (fun w hS => ?_)
  refine r_q (i := 0) rfl rfl hF hS (q_load0 ty77 rfl (i := 1) rfl rfl rfl) rfl (fun a hF => ?_)
  refine r_q (i := 1) rfl rfl hF hS (q_load0 ty82 rfl (i := 0) rfl (by simp [dc_length, Hd.c_len, En.c_len, Fk.c_len, List.length_replicate, List.length_cons, List.length_nil, List.length_append]) rfl) rfl (fun a hF => ?_)
  refine r_one (i := 2) (by kernel_rfl) ?_
  refine r_li rfl rfl (fun K17 hK17 => l_store0A ty77 hF hS rfl rfl (i := 1) rfl rfl rfl rfl (fun a w hF hS => hK17 _ _ _ hS (fun _ h => h) ?_))
  refine r_one (i := 3) (by kernel_rfl) ?_
  refine r_li rfl rfl (fun K18 hK18 => l_store0A ty82 hF hS rfl rfl (i := 0) rfl (by simp [dc_length, Hd.c_len, En.c_len, Fk.c_len, List.length_replicate, List.length_cons, List.length_nil, List.length_append]) (by simp [dc_length, Hd.c_len, En.c_len, Fk.c_len, List.length_replicate, List.length_cons, List.length_nil, List.length_append]) (by first | exact dc_all1 _ | rfl | simp [all1]) (fun a w hF hS => hK18 _ _ _ hS (fun _ h => h) ?_))
  refine r_q (i := 4) rfl rfl hF hS (q_assign rfl) rfl (fun a hF => ?_)
  refine r_done (by kernel_rfl) ?_
  refine hK16 _ _ ?_
  refine c_ret ?_
  repeat (first | refine ret_then ?_ | refine ret_blk ?_)
  refine c_ret' (P := Tryd.prog) (fn := Tryd.f37) rfl hF hS (.cell0 rfl ty77 (i := 1) rfl rfl rfl (.cell0 rfl ty82 (i := 0) rfl (by simp [dc_length, Hd.c_len, En.c_len, Fk.c_len, List.length_replicate, List.length_cons, List.length_nil, List.length_append]) rfl (.tmp rfl .nil))) ⟨_, rfl, ?_⟩
  have hb : ¬ GoodA v es h := fun q => by rw [tb_true q.2.1] at hc28; cases hc28
  exact ⟨zVw, zFk, 320, _, rfl, hS.le, VwOK.zero _, FkOK.zero _, .inl ⟨hb, rfl, rfl, rfl⟩, hS.nil⟩
  refine n_yes hF rfl ?_
  refine n_q hF hS (q_fieldAddr fl39_2 (by decide) rfl) rfl (fun a hF => ?_)
  refine n_yes hF rfl ?_
  refine n_q hF hS (q_loadG (o := 0 + 2) (v := .int .i64 h.no) ty3 rfl hbh.h (by rw [Hd.c_len]; decide) rfl rfl) rfl (fun a hF => ?_)
  refine n_yes hF rfl ?_
  refine n_q hF hS (q_move rfl) rfl (fun a hF => ?_)
  refine n_yes hF rfl ?_
  refine n_q hF hS (q_len Tryd.underlying31 rfl rfl) rfl (fun a hF => ?_)
  refine n_yes hF rfl ?_
  refine n_q hF hS (q_neI rfl rfl) rfl (fun a hF => ?_)
  refine n_q hF hS (q_pick (b := false) rfl rfl) rfl (fun a hF => ?_)
  refine hK10 _ _ ?_
  refine spn hF (s := 34) rfl (fun hc34 hF => ?_) (fun hc34 hF => ?_)
  refine c_true hF rfl ?_
  refine c_seq (fun K19 hK19 => ?_)
  refine r_start (fun L => L) [] mo hS (fun w hS => ?_)
  refine r_q (i := 0) rfl rfl hF hS (q_load0 ty77 rfl (i := 1) rfl rfl rfl) rfl (fun a hF => ?_)
  refine r_q (i := 1) rfl rfl hF hS (q_load0 ty82 rfl (i := 0) rfl (by simp [dc_length, Hd.c_len, En.c_len, Fk.c_len, List.length_replicate, List.length_cons, List.length_nil, List.length_append]) rfl) rfl (fun a hF => ?_)
  refine r_one (i := 2) (by kernel_rfl) ?_
  refine r_li rfl rfl (fun K20 hK20 => l_store0A ty77 hF hS rfl rfl (i := 1) rfl rfl rfl rfl (fun a w hF hS => hK20 _ _ _ hS (fun _ h => h) ?_))
  refine r_one (i := 3) (by kernel_rfl) ?_
  refine r_li rfl rfl (fun K21 hK21 => l_store0A ty82 hF hS rfl rfl (i := 0) rfl (by simp [dc_length, Hd.c_len, En.c_len, Fk.c_len, List.length_replicate, List.length_cons, List.length_nil, List.length_append]) (by simp [dc_length, Hd.c_len, En.c_len, Fk.c_len, List.length_replicate, List.length_cons, List.length_nil, List.length_append]) (by first | exact dc_all1 _ | rfl | simp [all1]) (fun a w hF hS => hK21 _ _ _ hS (fun _ h => h) ?_))
  refine r_q (i := 4) rfl rfl hF hS (q_assign rfl) rfl (fun a hF => ?_)
  refine r_done (by kernel_rfl) ?_
  refine hK19 _ _ ?_
  refine c_ret ?_
  repeat (first | refine ret_then ?_ | refine ret_blk ?_)
  refine c_ret' (P := Tryd.prog) (fn := Tryd.f37) rfl hF hS (.cell0 rfl ty77 (i := 1) rfl rfl rfl (.cell0 rfl ty82 (i := 0) rfl (by simp [dc_length, Hd.c_len, En.c_len, Fk.c_len, List.length_replicate, List.length_cons, List.length_nil, List.length_append]) rfl (.tmp rfl .nil))) ⟨_, rfl, ?_⟩
  have hb : ¬ GoodA v es h := fun q => by exact hc34 q.2.2.1
  exact ⟨zVw, zFk, 320, _, rfl, hS.le, VwOK.zero _, FkOK.zero _, .inl ⟨hb, rfl, rfl, rfl⟩, hS.nil⟩
  refine c_false hF rfl ?_
  refine wp_skip ?_
  refine hK9 _ _ ?_
  refine c_seq (fun K22 hK22 => ?_)
  refine c_reg ?_
  refine n_q hF hS (q_assign rfl) rfl (fun a hF => ?_)
  refine hK22 _ _ ?_
  refine c_seq (fun K23 hK23 => ?_)
  refine c_seq (fun K24 hK24 => ?_)
  refine c_reg ?_
  refine n_q hF hS (q_move rfl) rfl (fun a hF => ?_)
  refine n_q hF hS (q_len Tryd.underlying31 rfl rfl) rfl (fun a hF => ?_)
  refine n_q hF hS (q_move rfl) rfl (fun a hF => ?_)
  refine hK24 _ _ ?_
  refine c_block ?_
  refine c_loopL hF [8, 10, 12, 39, 40, 41, 42, 43, 44, 45, 46, 47, 48, 49, 50, 51, 52, 53]
    (fun g : Nat × Option Addr × Nat × List Blk => [(39, .int .i64 (g.1 : Int)), (10, .slice g.2.1 g.1 g.2.2.1)])
    (fun g => [⟨b4, zFk.c, 82⟩, ⟨b3, zVw.c, 77⟩] ++ g.2.2.2)
    (fun g _ => g.1 ≤ es.length ∧ OwS 35 32 (.slice g.2.1 g.1 g.2.2.1) g.1 (dgE ((es.map En.dg).take g.1)).flatten g.2.2.2 ∧ (∀ (j : Nat) (e : En), j < g.1 → es[j]? = some e → IsE e))
    (fun g => es.length - g.1) ((0, none, 0, [])) ⟨rfl, rfl, trivial⟩ (hS) (⟨Nat.zero_le _, .nil, fun j e h => absurd h (Nat.not_lt_zero _)⟩) ?_
  clear hF hS
  intro g a w H hle hF hS hJ
  replace hg := hg.mono hle
  replace ho := ho.mono hle
  replace hr := hr.mono hle
  replace hoe := hoe.mono hle
  replace hbv := hbv.mono hle
  replace hbh := hbh.mono hle
  replace hbo := hbo.mono hle
  have hl0 := Le.refl H
  obtain ⟨k, ad, cp, Lx⟩ := g
  obtain ⟨hk, hO, hie⟩ := hJ
  try dsimp only at hF hS hk hO hie
  refine c_seq (fun K25 hK25 => ?_)
  refine c_reg ?_
  refine n_q hF hS (q_lss rfl rfl) rfl (fun a hF => ?_)
  refine hK25 _ _ ?_
  refine c_seq (fun K26 hK26 => ?_)
  refine spd hF (s := 40) rfl (fun hc40 hF => ?_) (fun hc40 hF => ?_)
  refine c_true hF rfl ?_
  refine wp_skip ?_
  refine hK26 _ _ ?_
  refine c_seq (fun K27 hK27 => ?_)
  refine c_block ?_
  refine c_seq (fun K28 hK28 => ?_)
  refine c_reg ?_
  have hlt : k < es.length := by omega
  obtain ⟨e, hed⟩ : ∃ q, q = es[k] := ⟨_, rfl⟩
  have he? : es[k]? = some e := by rw [hed]; simp [hlt]
  have hel : (enE es)[k]? = some e.c := by simp [enE, he?]
  have hoe1 := hoe e (List.mem_of_getElem? he?)
  have hdd : (es.map En.dg)[k]? = some e.dg := by rw [List.getElem?_map, he?]; rfl
  refine n_q hF hS (q_indexAddrS Tryd.underlying31 ty48 rfl rfl (by omega) (hr.some (by simp only [enE, List.length_map]; omega))) rfl (fun a hF => ?_)
  refine n_q hF hS (q_loadL0 (v := .agg e.c.toArray) ty48 rfl hr hel (by decide) rfl (En.ld_all e)) rfl (fun a hF => ?_)
  refine n_l rfl (fun K29 hK29 => l_alloc hF hS zr48 rfl (fun a w b6 hF hS => hK29 _ _ ?_))
  refine n_l rfl (fun K30 hK30 => l_store0A ty48 hF hS rfl rfl (i := 0) rfl (by simp [dc_length, Hd.c_len, En.c_len, Fk.c_len, List.length_replicate, List.length_cons, List.length_nil, List.length_append]) (by simp [dc_length, Hd.c_len, En.c_len, Fk.c_len, List.length_replicate, List.length_cons, List.length_nil, List.length_append]) (En.c_all1 _) (fun a w hF hS => hK30 _ _ ?_))
  refine hK28 _ _ ?_
  refine c_seq (fun K31 hK31 => ?_)
  refine c_seq (fun K32 hK32 => ?_)
  refine c_reg ?_
  refine n_q hF hS (q_load0 ty48 rfl (i := 0) rfl (by simp [dc_length, Hd.c_len, En.c_len, Fk.c_len, List.length_replicate, List.length_cons, List.length_nil, List.length_append]) rfl) rfl (fun a hF => ?_)
  refine n_l rfl (fun K33 hK33 => l_call en76 hF rfl rfl (isEntry_c e _ _ hS.fz hg hoe1.1 hoe1.2.2 hoe1.2.1) (fun v33 w hR a hF => ?_))
  obtain ⟨rfl, hc⟩ := hR
  replace hS := hS.call0 hc
  refine hK33 _ _ ?_
  refine n_q hF hS (q_not rfl) rfl (fun a hF => ?_)
  refine hK32 _ _ ?_
  refine sp hF (s := 45) rfl (fun hc45 hF => ?_) (fun hc45 hF => ?_)
  refine c_true hF rfl ?_
  refine c_seq (fun K34 hK34 => ?_)
  refine r_start (fun L => L) [] mo hS (fun w hS => ?_)
  refine r_q (i := 0) rfl rfl hF hS (q_load0 ty77 rfl (i := 2) rfl rfl rfl) rfl (fun a hF => ?_)
  refine r_q (i := 1) rfl rfl hF hS (q_load0 ty82 rfl (i := 1) rfl (by simp [dc_length, Hd.c_len, En.c_len, Fk.c_len, List.length_replicate, List.length_cons, List.length_nil, List.length_append]) rfl) rfl (fun a hF => ?_)
  refine r_one (i := 2) (by kernel_rfl) ?_
  refine r_li rfl rfl (fun K35 hK35 => l_store0A ty77 hF hS rfl rfl (i := 2) rfl rfl rfl rfl (fun a w hF hS => hK35 _ _ _ hS (fun _ h => h) ?_))
  refine r_one (i := 3) (by kernel_rfl) ?_
  refine r_li rfl rfl (fun K36 hK36 => l_store0A ty82 hF hS rfl rfl (i := 1) rfl (by simp [dc_length, Hd.c_len, En.c_len, Fk.c_len, List.length_replicate, List.length_cons, List.length_nil, List.length_append]) (by simp [dc_length, Hd.c_len, En.c_len, Fk.c_len, List.length_replicate, List.length_cons, List.length_nil, List.length_append]) (by first | exact dc_all1 _ | rfl | simp [all1]) (fun a w hF hS => hK36 _ _ _ hS (fun _ h => h) ?_))
  refine r_q (i := 4) rfl rfl hF hS (q_assign rfl) rfl (fun a hF => ?_)
  refine r_done (by kernel_rfl) ?_
  refine hK34 _ _ ?_
  refine c_ret ?_
  repeat (first | refine ret_then ?_ | refine ret_blk ?_)
  refine c_ret' (P := Tryd.prog) (fn := Tryd.f37) rfl hF hS (.cell0 rfl ty77 (i := 2) rfl rfl rfl (.cell0 rfl ty82 (i := 1) rfl (by simp [dc_length, Hd.c_len, En.c_len, Fk.c_len, List.length_replicate, List.length_cons, List.length_nil, List.length_append]) rfl (.tmp rfl .nil))) ⟨_, rfl, ?_⟩
  have hb : ¬ GoodA v es h := fun q => by
    have h9 := q.2.2.2.1 k e he?
    rw [tb_true h9] at hc45; cases hc45
  exact ⟨zVw, zFk, 320, _, rfl, hS.le, VwOK.zero _, FkOK.zero _, .inl ⟨hb, rfl, rfl, rfl⟩, hS.nil⟩
  refine c_false hF rfl ?_
  refine wp_skip ?_
  refine hK31 _ _ ?_
  refine c_reg ?_
  refine n_q hF hS (q_move rfl) rfl (fun a hF => ?_)
  refine n_q hF hS (q_fieldAddr fl48_1 (by decide) rfl) rfl (fun a hF => ?_)
  refine n_q hF hS (q_load ty35 rfl (i := 0) rfl (by simp [dc_length, Hd.c_len, En.c_len, Fk.c_len, List.length_replicate, List.length_cons, List.length_nil, List.length_append]) rfl (En.ld_dg e)) rfl (fun a hF => ?_)
  refine n_l rfl (fun K37 hK37 => l_buildF (els := [dc e.dg]) Tryd.underlying45 ty35 zr35 hF hS rfl rfl rfl (fun e he => by rw [List.mem_singleton.1 he]; exact dc_length _) rfl rfl rfl (fun a w b7 hF hle hS r10_3 => ?_))
  replace hg := hg.mono hle
  replace ho := ho.mono hle
  replace hr := hr.mono hle
  replace hoe := hoe.mono hle
  replace hbv := hbv.mono hle
  replace hbh := hbh.mono hle
  replace hbo := hbo.mono hle
  replace hl0 := hl0.mono hle
  refine hK37 _ _ ?_
  replace hS := St.perm (L := [_, _, _] ++ Lx) (L' := Lx ++ [_, _, _]) hS List.perm_append_comm
  refine n_l rfl (fun K38 hK38 => l_append Tryd.underlying45 ty35 zr35 bt35 hF hS rfl rfl (hO) (.slice Tryd.underlying45 r10_3.rd (by simp only [List.flatten_cons, List.flatten_nil, List.append_nil]; exact dc_all1 _)) (by omega) (by simp only [maxLen]; omega) rfl rfl (fun a w c10_4 ad10_4 Lx10_4 ho10_4 hF hS => hK38 _ _ ?_))
  replace hS := hS.perm (L' := [_, _, _] ++ Lx10_4) List.perm_append_comm
  refine n_q hF hS (q_assign rfl) rfl (fun a hF => ?_)
  refine hK27 _ _ ?_
  refine c_reg ?_
  refine n_q hF hS (q_addI rfl rfl (by omega)) rfl (fun a hF => ?_)
  refine n_q hF hS (q_move rfl) rfl (fun a hF => ?_)
  have hie1 : IsE e := tb_iff.1 (by simpa using hc45)
  exact ⟨(k + 1, ad10_4, c10_4, Lx10_4), _, (by show es.length - (k + 1) < es.length - k; omega), hl0, hF.back ⟨rfl, rfl, trivial⟩ rfl (by repeat first | exact Ext.refl _ _ | refine Ext.rem' rfl ?_ | refine Ext.push rfl ?_), hS.lose (.cons _ (.refl _)), ⟨by show k + 1 ≤ es.length; omega, by show OwS _ _ _ _ _ _; rw [dgE_snoc hdd]; exact ho10_4, fun j e9 hj he9 => by rcases Nat.lt_succ_iff_lt_or_eq.1 hj with hj | rfl; exact hie j e9 hj he9; rw [he?] at he9; obtain rfl := Option.some.inj he9; exact hie1⟩⟩
  refine c_false hF rfl ?_
  refine c_exit ?_
  refine hK23 _ _ ?_
  refine c_seq (fun K39 hK39 => ?_)
  refine c_seq (fun K40 hK40 => ?_)
  refine c_reg ?_
  obtain rfl : k = es.length := by omega
  rw [List.take_of_length_le (by simp)] at hO
  have hcp := hO.le
  obtain ⟨H9, hle9, hS9, hr9⟩ := hO.freeze (St.perm (L := [_, _] ++ Lx) (L' := Lx ++ [_, _]) hS List.perm_append_comm)
  replace hS := hS9
  replace hg := hg.mono hle9
  replace ho := ho.mono hle9
  replace hr := hr.mono hle9
  replace hoe := hoe.mono hle9
  replace hbv := hbv.mono hle9
  replace hbh := hbh.mono hle9
  replace hbo := hbo.mono hle9
  obtain ⟨ds, hds⟩ : ∃ q, q = es.map En.dg := ⟨_, rfl⟩
  have hdl : ds.length = es.length := by rw [hds, List.length_map]
  have hdr : RdL H9 ad 32 (dgE ds) := RdL.of_dg (by rw [hdl, hds]; exact hr9)
  refine rw_ hF (s := 10) (u := .slice ad ds.length cp) rfl (by rw [hdl]) (fun hF => ?_)
  rw [← hdl] at hcp
  refine n_q hF hS (q_loadG (o := 0) (v := .agg h.c.toArray) ty39 rfl hbh.h (by rw [Hd.c_len]; decide) rfl (Hd.ld_all h)) rfl (fun a hF => ?_)
  refine n_q hF hS (q_move rfl) rfl (fun a hF => ?_)
  refine n_l rfl (fun K41 hK41 => l_call en77 hF rfl rfl (fits_c h ds ad cp (by omega) _ _ hS.fz hg hdr) (fun v41 w hR a hF => ?_))
  obtain ⟨rfl, hc⟩ := hR
  replace hS := hS.call0 hc
  refine hK41 _ _ ?_
  refine n_q hF hS (q_not rfl) rfl (fun a hF => ?_)
  refine hK40 _ _ ?_
  refine sp hF (s := 57) rfl (fun hc57 hF => ?_) (fun hc57 hF => ?_)
  refine c_true hF rfl ?_
  refine c_seq (fun K42 hK42 => ?_)
  refine r_start (fun L => L) [] mo hS (fun w hS => ?_)
  refine r_q (i := 0) rfl rfl hF hS (q_load0 ty77 rfl (i := 1) rfl rfl rfl) rfl (fun a hF => ?_)
  refine r_q (i := 1) rfl rfl hF hS (q_load0 ty82 rfl (i := 0) rfl (by simp [dc_length, Hd.c_len, En.c_len, Fk.c_len, List.length_replicate, List.length_cons, List.length_nil, List.length_append]) rfl) rfl (fun a hF => ?_)
  refine r_one (i := 2) (by kernel_rfl) ?_
  refine r_li rfl rfl (fun K43 hK43 => l_store0A ty77 hF hS rfl rfl (i := 1) rfl rfl rfl rfl (fun a w hF hS => hK43 _ _ _ hS (fun _ h => h) ?_))
  refine r_one (i := 3) (by kernel_rfl) ?_
  refine r_li rfl rfl (fun K44 hK44 => l_store0A ty82 hF hS rfl rfl (i := 0) rfl (by simp [dc_length, Hd.c_len, En.c_len, Fk.c_len, List.length_replicate, List.length_cons, List.length_nil, List.length_append]) (by simp [dc_length, Hd.c_len, En.c_len, Fk.c_len, List.length_replicate, List.length_cons, List.length_nil, List.length_append]) (by first | exact dc_all1 _ | rfl | simp [all1]) (fun a w hF hS => hK44 _ _ _ hS (fun _ h => h) ?_))
  refine r_q (i := 4) rfl rfl hF hS (q_assign rfl) rfl (fun a hF => ?_)
  refine r_done (by kernel_rfl) ?_
  refine hK42 _ _ ?_
  refine c_ret ?_
  repeat (first | refine ret_then ?_ | refine ret_blk ?_)
  refine c_ret' (P := Tryd.prog) (fn := Tryd.f37) rfl hF hS (.cell0 rfl ty77 (i := 1) rfl rfl rfl (.cell0 rfl ty82 (i := 0) rfl (by simp [dc_length, Hd.c_len, En.c_len, Fk.c_len, List.length_replicate, List.length_cons, List.length_nil, List.length_append]) rfl (.tmp rfl .nil))) ⟨_, rfl, ?_⟩
  have hb : ¬ GoodA v es h := fun q => by rw [hds, tb_true q.2.2.2.2] at hc57; cases hc57
  exact ⟨zVw, zFk, 320, _, rfl, hS.le, VwOK.zero _, FkOK.zero _, .inl ⟨hb, rfl, rfl, rfl⟩, hS.nil⟩
  refine c_false hF rfl ?_
  refine wp_skip ?_
  refine hK39 _ _ ?_
  refine c_seq (fun K45 hK45 => ?_)
  refine c_reg ?_
  have hgood : GoodA v es h := ⟨tb_iff.1 (by simpa using hc22), tb_iff.1 (by simpa using hc28), by omega, fun j e he => hie j e (List.getElem?_eq_some_iff.1 he).1 he, by rw [← hds]; exact tb_iff.1 (by simpa using hc57)⟩
  refine n_q hF hS (q_fieldAddr fl77_0 (by decide) rfl) rfl (fun a hF => ?_)
  refine n_q hF hS (q_loadG (o := 0 + 0) (v := .int .i64 v.st) ty3 rfl hbv.h (Nat.le_of_ble_eq_true rfl) rfl rfl) rfl (fun a hF => ?_)
  refine n_q hF hS (q_fieldAddr fl77_1 (by decide) rfl) rfl (fun a hF => ?_)
  refine n_q hF hS (q_loadG (o := 0 + 1) (v := .int .i64 v.fo) ty3 rfl hbv.h (Nat.le_of_ble_eq_true rfl) rfl rfl) rfl (fun a hF => ?_)
  refine n_q hF hS (q_fieldAddr fl77_2 (by decide) rfl) rfl (fun a hF => ?_)
  refine n_q hF hS (q_loadG (o := 0 + 2) (v := .int .i64 v.pub) ty3 rfl hbv.h (Nat.le_of_ble_eq_true rfl) rfl rfl) rfl (fun a hF => ?_)
  refine n_q hF hS (q_move rfl) rfl (fun a hF => ?_)
  refine n_q hF hS (q_loadG (o := 0) (v := .agg h.c.toArray) ty39 rfl hbh.h (by rw [Hd.c_len]; decide) rfl (Hd.ld_all h)) rfl (fun a hF => ?_)
  refine n_l rfl (fun K46 hK46 => l_buildF (els := [h.c]) Tryd.underlying75 ty39 zr39 hF hS rfl rfl rfl (fun e he => by rw [List.mem_singleton.1 he]; exact h.c_len) rfl rfl rfl (fun a w b8 hF hle hS r14_8 => ?_))
  replace hg := hg.mono hle
  replace ho := ho.mono hle
  replace hr := hr.mono hle
  replace hoe := hoe.mono hle
  replace hbv := hbv.mono hle
  replace hbh := hbh.mono hle
  replace hbo := hbo.mono hle
  refine hK46 _ _ ?_
  refine n_q hF hS (q_build (P := Tryd.prog) (T := 77) (cs := [_, _, _, _, _]) zr77 pl77 rfl (by first | rfl | simp [bld, spl, dc_length, Hd.c_len, En.c_len, Fk.c_len, List.length_replicate, List.length_cons, List.length_nil, List.length_append])) rfl (fun a hF => ?_)
  refine n_q hF hS (q_build (P := Tryd.prog) (T := 134) (cs := [_, _, _, _, _]) zr134 pl134 rfl (by first | rfl | simp [bld, spl, dc_length, Hd.c_len, En.c_len, Fk.c_len, List.length_replicate, List.length_cons, List.length_nil, List.length_append])) rfl (fun a hF => ?_)
  refine n_l rfl (fun K47 hK47 => l_alloc hF hS zr134 rfl (fun a w b9 hF hS => hK47 _ _ ?_))
  refine n_l rfl (fun K48 hK48 => l_store0A ty134 hF hS rfl rfl (i := 0) rfl rfl rfl rfl (fun a w hF hS => hK48 _ _ ?_))
  refine hK45 _ _ ?_
  refine c_seq (fun K49 hK49 => ?_)
  refine c_reg ?_
  refine n_q hF hS (q_assign rfl) rfl (fun a hF => ?_)
  refine hK49 _ _ ?_
  have hgood := hgood
  refine c_join (γ := Vw × Option Fk) hF hS [14, 71, 72, 73, 74, 75, 76, 77, 78, 79, 80, 81, 82, 83, 84, 85, 86, 87, 88, 89, 90, 91, 92, 93, 94, 95] (fun g => [(14, .bool g.2.isSome)]) (fun g => [⟨b9, g.1.c, 134⟩, ⟨b4, (g.2.getD zFk).c, 82⟩, ⟨b3, zVw.c, 77⟩]) (fun g H => VwOK H g.1 ∧ (∀ f, g.2 = some f → FkOK H f) ∧ g.2.map Fk.key = accF v es h ∧ g.1.st = v.st ∧ g.1.fo = v.fo ∧ g.1.pub = v.pub ∧ g.1.ds = (if v.ds.length ≤ es.length then es.map En.dg else v.ds)) ?_ ?_
  intro g a w H hle hF hS hJ
  replace hg := hg.mono hle
  replace ho := ho.mono hle
  replace hr := hr.mono hle
  replace hoe := hoe.mono hle
  replace hbv := hbv.mono hle
  replace hbh := hbh.mono hle
  replace hbo := hbo.mono hle
  replace r14_8 := r14_8.mono hle
  obtain ⟨y, fo9⟩ := g
  obtain ⟨hoy, hfk, hfk2, hy1, hy2, hy3, hy4⟩ := hJ
  try dsimp only at hF hS hoy hfk hfk2 hy1 hy2 hy3 hy4
  refine c_seq (fun K51 hK51 => ?_)
  refine c_seq (fun K52 hK52 => ?_)
  refine c_reg ?_
  refine n_q hF hS (q_move rfl) rfl (fun a hF => ?_)
  refine hK52 _ _ ?_
  refine sp hF (s := 96) rfl (fun hc96 hF => ?_) (fun hc96 hF => ?_)
  refine c_true hF rfl ?_
  refine c_seq (fun K53 hK53 => ?_)
  refine r_start (fun L => L.take 2) [] mo hS (fun w hS => ?_)
  refine r_q (i := 0) rfl rfl hF (hS.lose (.cons_cons _ (.cons_cons _ (List.nil_sublist _)))) (q_loadG (o := 0) (v := .agg v.c.toArray) ty77 rfl hbv.h (Nat.le_of_ble_eq_true rfl) rfl rfl) rfl (fun a hF => ?_)
  refine r_q (i := 1) rfl rfl hF (hS.lose (.cons_cons _ (.cons_cons _ (List.nil_sublist _)))) (q_load0 ty82 rfl (i := 1) rfl (by simp [dc_length, Hd.c_len, En.c_len, Fk.c_len, List.length_replicate, List.length_cons, List.length_nil, List.length_append]) rfl) rfl (fun a hF => ?_)
  refine r_one (i := 2) (by kernel_rfl) ?_
  refine r_li rfl rfl (fun K54 hK54 => l_store0A ty77 hF hS rfl rfl (i := 2) rfl rfl rfl rfl (fun a w hF hS => hK54 _ _ _ (hS.lose (.cons_cons _ (.cons_cons _ (List.nil_sublist _)))) (fun _ h => h) ?_))
  refine r_one (i := 3) (by kernel_rfl) ?_
  refine r_li rfl rfl (fun K55 hK55 => l_store0A ty82 hF hS rfl rfl (i := 1) rfl (by simp [dc_length, Hd.c_len, En.c_len, Fk.c_len, List.length_replicate, List.length_cons, List.length_nil, List.length_append]) (by simp [dc_length, Hd.c_len, En.c_len, Fk.c_len, List.length_replicate, List.length_cons, List.length_nil, List.length_append]) (Fk.c_all1 _) (fun a w hF hS => hK55 _ _ _ (hS.lose (.cons_cons _ (.cons_cons _ (List.nil_sublist _)))) (fun _ h => h) ?_))
  refine r_q (i := 4) rfl rfl hF (hS.lose (.cons_cons _ (.cons_cons _ (List.nil_sublist _)))) (q_assign rfl) rfl (fun a hF => ?_)
  refine r_done (by kernel_rfl) ?_
  refine hK53 _ _ ?_
  refine c_ret ?_
  repeat (first | refine ret_then ?_ | refine ret_blk ?_)
  refine c_ret' (P := Tryd.prog) (fn := Tryd.f37) rfl hF hS (.cell0 rfl ty77 (i := 2) rfl rfl rfl (.cell0 rfl ty82 (i := 1) rfl (by simp [dc_length, Hd.c_len, En.c_len, Fk.c_len, List.length_replicate, List.length_cons, List.length_nil, List.length_append]) rfl (.tmp rfl .nil))) ⟨_, rfl, ?_⟩
  obtain ⟨r, hr9⟩ := Option.isSome_iff_exists.1 hc96
  subst hr9
  exact ⟨v, r, 321, _, rfl, hS.le, ho, hfk r rfl, .inr (.inl ⟨hgood, r.key, hfk2.symm, rfl, rfl, rfl⟩), hS.nil⟩
  refine c_false hF rfl ?_
  refine wp_skip ?_
  refine hK51 _ _ ?_
  refine c_seq (fun K56 hK56 => ?_)
  refine c_reg ?_
  refine n_q hF hS (q_fieldAddr fl77_4 (by decide) rfl) rfl (fun a hF => ?_)
  refine n_q hF hS (q_loadG (o := 0 + 4) (v := .slice v.ha v.hs.length v.hp) ty75 rfl hbv.h (Nat.le_of_ble_eq_true rfl) rfl rfl) rfl (fun a hF => ?_)
  refine n_q hF hS (q_fieldAddr fl134_0 (by decide) rfl) rfl (fun a hF => ?_)
  refine n_q hF hS (q_fieldAddr fl77_4 (by decide) rfl) rfl (fun a hF => ?_)
  refine n_l rfl (fun K57 hK57 => l_store (vs := [_]) ty75 hF hS rfl rfl (i := 0) rfl rfl rfl rfl rfl (fun a w hF hS => hK57 _ _ ?_))
  refine hK56 _ _ ?_
  refine c_join (γ := Vw) hF hS [15, 16, 103, 104, 105, 106, 107, 108, 109, 110, 111, 112, 113, 114, 115, 116, 117, 118, 119, 120, 121] (fun _ => []) (fun x => [⟨b9, x.c, 134⟩, ⟨b4, (fo9.getD zFk).c, 82⟩, ⟨b3, zVw.c, 77⟩]) (fun x H => VwOK H x ∧ x.st = v.st ∧ x.fo = v.fo ∧ x.pub = v.pub ∧ x.ds = (if v.ds.length ≤ es.length then es.map En.dg else v.ds) ∧ InsH v.hs h x.hs) ?_ ?_
  intro x a w H hle hF hS hJ
  replace hg := hg.mono hle
  replace ho := ho.mono hle
  replace hr := hr.mono hle
  replace hoe := hoe.mono hle
  replace hbv := hbv.mono hle
  replace hbh := hbh.mono hle
  replace hbo := hbo.mono hle
  replace r14_8 := r14_8.mono hle
  replace hoy := hoy.mono hle
  obtain ⟨hox, hx1, hx2, hx3, hx4, hx5⟩ := hJ
  refine c_seq (fun K59 hK59 => ?_)
  refine r_start (fun L => L.take 2) [] mo hS (fun w hS => ?_)
  refine r_q (i := 0) rfl rfl hF (hS.lose (.cons_cons _ (.cons_cons _ (List.nil_sublist _)))) (q_fieldAddr fl134_0 (by decide) rfl) rfl (fun a hF => ?_)
  refine r_q (i := 1) rfl rfl hF (hS.lose (.cons_cons _ (.cons_cons _ (List.nil_sublist _)))) (q_load0 ty77 rfl (i := 0) rfl rfl rfl) rfl (fun a hF => ?_)
  refine r_q (i := 2) rfl rfl hF (hS.lose (.cons_cons _ (.cons_cons _ (List.nil_sublist _)))) (q_load0 ty82 rfl (i := 1) rfl (by simp [dc_length, Hd.c_len, En.c_len, Fk.c_len, List.length_replicate, List.length_cons, List.length_nil, List.length_append]) rfl) rfl (fun a hF => ?_)
  refine r_one (i := 3) (by kernel_rfl) ?_
  refine r_li rfl rfl (fun K60 hK60 => l_store0A ty77 hF hS rfl rfl (i := 2) rfl rfl rfl rfl (fun a w hF hS => hK60 _ _ _ (hS.lose (.cons_cons _ (.cons_cons _ (List.nil_sublist _)))) (fun _ h => h) ?_))
  refine r_one (i := 4) (by kernel_rfl) ?_
  refine r_li rfl rfl (fun K61 hK61 => l_store0A ty82 hF hS rfl rfl (i := 1) rfl (by simp [dc_length, Hd.c_len, En.c_len, Fk.c_len, List.length_replicate, List.length_cons, List.length_nil, List.length_append]) (by simp [dc_length, Hd.c_len, En.c_len, Fk.c_len, List.length_replicate, List.length_cons, List.length_nil, List.length_append]) (Fk.c_all1 _) (fun a w hF hS => hK61 _ _ _ (hS.lose (.cons_cons _ (.cons_cons _ (List.nil_sublist _)))) (fun _ h => h) ?_))
  refine r_q (i := 5) rfl rfl hF (hS.lose (.cons_cons _ (.cons_cons _ (List.nil_sublist _)))) (q_assign rfl) rfl (fun a hF => ?_)
  refine r_done (by kernel_rfl) ?_
  refine hK59 _ _ ?_
  refine c_ret ?_
  repeat (first | refine ret_then ?_ | refine ret_blk ?_)
  refine c_ret' (P := Tryd.prog) (fn := Tryd.f37) rfl hF hS (.cell0 rfl ty77 (i := 2) rfl rfl rfl (.cell0 rfl ty82 (i := 1) rfl (by simp [dc_length, Hd.c_len, En.c_len, Fk.c_len, List.length_replicate, List.length_cons, List.length_nil, List.length_append]) rfl (.tmp rfl .nil))) ⟨_, rfl, ?_⟩
  obtain rfl : fo9 = none := by cases fo9 with | none => rfl | some q => cases hc96
  exact ⟨x, zFk, 0, _, rfl, hS.le, hox, FkOK.zero _, .inr (.inr ⟨hgood, hfk2.symm, rfl, rfl, hx1, hx2, hx3, hx4, hx5⟩), hS.nil⟩
  intro K58 hK58
  have hj58 := hS.rl
  refine c_seq (fun K62 hK62 => ?_)
  refine c_reg ?_
  refine n_q hF hS (q_fieldAddr fl77_4 (by decide) rfl) rfl (fun a hF => ?_)
  refine n_q hF hS (q_loadG (o := 0 + 4) (v := .slice v.ha v.hs.length v.hp) ty75 rfl hbv.h (Nat.le_of_ble_eq_true rfl) rfl rfl) rfl (fun a hF => ?_)
  refine n_q hF hS (q_fieldAddr fl39_2 (by decide) rfl) rfl (fun a hF => ?_)
  refine n_q hF hS (q_loadG (o := 0 + 2) (v := .int .i64 h.no) ty3 rfl hbh.h (by rw [Hd.c_len]; decide) rfl rfl) rfl (fun a hF => ?_)
  refine n_l rfl (fun K63 hK63 => l_call en78 hF rfl rfl (bsH_c v.hs v.ha v.hp h.no ho.hlen (fun x hx => valid_no hgood.1 hx) (verS_bounds hgood.2.1.2.2).2.2 (valid_srt hgood.1) _ _ hS.fz ho.rdh) (fun v63 w hR a hF => ?_))
  obtain ⟨p, rfl, hp, hc⟩ := hR
  replace hS := hS.call0 hc
  refine hK63 _ _ ?_
  refine n_q hF hS (q_move rfl) rfl (fun a hF => ?_)
  refine n_q hF hS (q_extract (i := 0) rfl rfl) rfl (fun a hF => ?_)
  refine n_q hF hS (q_extract (i := 1) rfl rfl) rfl (fun a hF => ?_)
  refine n_q hF hS (q_assign rfl) rfl (fun a hF => ?_)
  refine n_q hF hS (q_assign rfl) rfl (fun a hF => ?_)
  refine hK62 _ _ ?_
  refine c_seq (fun K64 hK64 => ?_)
  refine c_reg ?_
  refine n_q hF hS (q_move rfl) rfl (fun a hF => ?_)
  refine n_q hF hS (q_not rfl) rfl (fun a hF => ?_)
  refine hK64 _ _ ?_
  refine sp hF (s := 112) rfl (fun hc112 hF => ?_) (fun hc112 hF => ?_)
  refine c_true hF rfl ?_
  refine r_start (fun _ => []) [9] mo hS (fun w hS => ?_)
  refine r_q (i := 0) rfl rfl hF (hS.lose (List.nil_sublist _)) (q_fieldAddr fl77_4 (by decide) rfl) rfl (fun a hF => ?_)
  refine r_q (i := 1) rfl rfl hF (hS.lose (List.nil_sublist _)) (q_loadG (o := 0 + 4) (v := .slice v.ha v.hs.length v.hp) ty75 rfl hbv.h (Nat.le_of_ble_eq_true rfl) rfl rfl) rfl (fun a hF => ?_)
  refine r_q (i := 3) rfl rfl hF (hS.lose (List.nil_sublist _)) (q_move rfl) rfl (fun a hF => ?_)
  refine r_q (i := 4) rfl rfl hF (hS.lose (List.nil_sublist _)) (q_loadG (o := 0) (v := .agg h.c.toArray) ty39 rfl hbh.h (by rw [Hd.c_len]; decide) rfl (Hd.ld_all h)) rfl (fun a hF => ?_)
  refine r_two (i := 2) (j := 5) (by kernel_rfl) ?_ ?_
  have hsub := hS.sub
  refine r_li rfl rfl (fun K65 hK65 => l_call en81 hF rfl rfl (cloneH_c v.hs v.ha v.hp ho.hlen _ _ hS.fz ho.rdh.rd_h) (fun v65 w hR a hF => ?_))
  obtain ⟨ad, cp, Lx, rfl, hO, hc⟩ := hR
  replace hS := hS.call hc
  replace hS := hS.perm (L' := _ ++ Lx) List.perm_append_comm
  refine hK65 _ _ _ (hS.lose (List.nil_sublist _)) (fun _ h => h) ?_
  refine r_one (i := 5) (by kernel_rfl) ?_
  refine r_li rfl rfl (fun K66 hK66 => l_buildO (els := [h.c]) Tryd.underlying75 ty39 zr39 hF hS rfl rfl rfl (fun e he => by rw [List.mem_singleton.1 he]; exact h.c_len) rfl rfl rfl (fun a w b10 hF hS => hK66 _ _ _ (hS.lose (List.nil_sublist _)) (fun _ h => h) ?_))
  refine r_one (i := 6) (by kernel_rfl) ?_
  have hsub9 := hS.sub
  obtain ⟨H5, hH5, hle5, hS5⟩ := hS.freeze' (i := 0) rfl
  have hbv5 : H5 b10 = some (.cells h.c.toArray 39 (0, 0)) := by rw [hH5]; exact (frz_self _ ⟨b10, [h.c].flatten, 39⟩).trans (by simp)
  have hrv5 : RdS H5 (some ⟨b10, 0, none⟩) 1 37 h.c := ⟨h.c_len, fun _ => ⟨b10, 0, rfl, fun j u hu => by rw [hcell, hbv5]; simpa using hu⟩⟩
  replace hS := (St.cast (L' := [_, _, _] ++ Lx) hS5 rfl).perm (L' := Lx ++ [_, _, _]) List.perm_append_comm
  refine rw_ hF (s := 118) (u := .slice (some ⟨b10, 0, none⟩) 1 1) rfl rfl (fun hF => ?_)
  replace hg := hg.mono hle5
  replace ho := ho.mono hle5
  replace hr := hr.mono hle5
  replace hoe := hoe.mono hle5
  replace hbv := hbv.mono hle5
  replace hbh := hbh.mono hle5
  replace hbo := hbo.mono hle5
  replace r14_8 := r14_8.mono hle5
  replace hoy := hoy.mono hle5
  replace hj58 := hj58.mono hle5
  have hsub := hS.sub
  refine r_li rfl rfl (fun K67 hK67 => l_call en80 hF rfl rfl (InsertH_c v.hs h p hp.le ho.hlen ad cp Lx hO b10 _ _ hS.hand hbv5 hrv5) (fun v67 w hR a hF => ?_))
  obtain ⟨ad2, cp2, Lx2, rfl, hO2, hc⟩ := hR
  replace hS := hS.callG hc
  obtain ⟨H6, hle6, hS6, hr6⟩ := hO2.freeze hS
  replace hS := hS6
  have hle56 := hle5.trans hle6
  replace hg := hg.mono hle6
  replace ho := ho.mono hle6
  replace hr := hr.mono hle6
  replace hoe := hoe.mono hle6
  replace hbv := hbv.mono hle6
  replace hbh := hbh.mono hle6
  replace hbo := hbo.mono hle6
  replace r14_8 := r14_8.mono hle6
  replace hoy := hoy.mono hle6
  replace hj58 := hj58.mono hle6
  refine hK67 _ _ _ (hS.lose (List.nil_sublist _)) (fun _ h => h.forget hsub9 hle56) ?_
  refine r_q (i := 7) rfl rfl hF (hS.lose (List.nil_sublist _)) (q_fieldAddr fl134_0 (by decide) rfl) rfl (fun a hF => ?_)
  refine r_q (i := 8) rfl rfl hF (hS.lose (List.nil_sublist _)) (q_fieldAddr fl77_4 (by decide) rfl) rfl (fun a hF => ?_)
  refine r_one (i := 9) (by kernel_rfl) ?_
  refine r_lL rfl rfl rfl (fun K68 hK68 => l_store (vs := [_]) ty75 hF hS rfl rfl (i := 0) rfl rfl rfl rfl rfl (fun a w hF hS => hK68 _ _ ?_))
  refine r_done (by kernel_rfl) ?_
  exact hK58 (⟨y.st, y.fo, y.pub, y.da, y.dp, y.ds, ad2, cp2, v.hs.insertIdx p h⟩) _ _ _ hj58 (hF.meet trivial (by repeat first | exact Ext.remr _ _ | refine Ext.push rfl ?_ | refine Ext.rem' rfl ?_)) (St.cast hS (by simp only [Vw.c, List.length_insertIdx_of_le_length hp.le]; rfl)) ⟨⟨hoy.rdd, RdL.of_h (by rw [List.length_insertIdx_of_le_length hp.le]; exact hr6), hoy.dlen, by show (v.hs.insertIdx p h).length ≤ _; rw [List.length_insertIdx_of_le_length hp.le]; have := valid_len hgood.1; omega, hoy.dcap, by show (v.hs.insertIdx p h).length ≤ cp2; rw [List.length_insertIdx_of_le_length hp.le]; exact hO2.le⟩, hy1, hy2, hy3, hy4, p, hp, by rw [if_neg (by simpa using hc112)]⟩
  refine r_li rfl rfl (fun K69 hK69 => l_buildO (els := [h.c]) Tryd.underlying75 ty39 zr39 hF hS rfl rfl rfl (fun e he => by rw [List.mem_singleton.1 he]; exact h.c_len) rfl rfl rfl (fun a w b11 hF hS => hK69 _ _ _ (hS.lose (List.nil_sublist _)) (fun _ h => h) ?_))
  refine r_one (i := 2) (by kernel_rfl) ?_
  have hsub := hS.sub
  refine r_li rfl rfl (fun K70 hK70 => l_call en81 hF rfl rfl (cloneH_c v.hs v.ha v.hp ho.hlen _ _ hS.fz ho.rdh.rd_h) (fun v70 w hR a hF => ?_))
  obtain ⟨ad, cp, Lx, rfl, hO, hc⟩ := hR
  replace hS := hS.call hc
  replace hS := hS.perm (L' := _ ++ Lx) List.perm_append_comm
  refine hK70 _ _ _ (hS.lose (List.nil_sublist _)) (fun _ h => h) ?_
  refine r_one (i := 6) (by kernel_rfl) ?_
  have hsub9 := hS.sub
  obtain ⟨H5, hH5, hle5, hS5⟩ := hS.freeze' (i := 0) rfl
  have hbv5 : H5 b11 = some (.cells h.c.toArray 39 (0, 0)) := by rw [hH5]; exact (frz_self _ ⟨b11, [h.c].flatten, 39⟩).trans (by simp)
  have hrv5 : RdS H5 (some ⟨b11, 0, none⟩) 1 37 h.c := ⟨h.c_len, fun _ => ⟨b11, 0, rfl, fun j u hu => by rw [hcell, hbv5]; simpa using hu⟩⟩
  replace hS := (St.cast (L' := [_, _, _] ++ Lx) hS5 rfl).perm (L' := Lx ++ [_, _, _]) List.perm_append_comm
  refine rw_ hF (s := 118) (u := .slice (some ⟨b11, 0, none⟩) 1 1) rfl rfl (fun hF => ?_)
  replace hg := hg.mono hle5
  replace ho := ho.mono hle5
  replace hr := hr.mono hle5
  replace hoe := hoe.mono hle5
  replace hbv := hbv.mono hle5
  replace hbh := hbh.mono hle5
  replace hbo := hbo.mono hle5
  replace r14_8 := r14_8.mono hle5
  replace hoy := hoy.mono hle5
  replace hj58 := hj58.mono hle5
  have hsub := hS.sub
  refine r_li rfl rfl (fun K71 hK71 => l_call en80 hF rfl rfl (InsertH_c v.hs h p hp.le ho.hlen ad cp Lx hO b11 _ _ hS.hand hbv5 hrv5) (fun v71 w hR a hF => ?_))
  obtain ⟨ad2, cp2, Lx2, rfl, hO2, hc⟩ := hR
  replace hS := hS.callG hc
  obtain ⟨H6, hle6, hS6, hr6⟩ := hO2.freeze hS
  replace hS := hS6
  have hle56 := hle5.trans hle6
  replace hg := hg.mono hle6
  replace ho := ho.mono hle6
  replace hr := hr.mono hle6
  replace hoe := hoe.mono hle6
  replace hbv := hbv.mono hle6
  replace hbh := hbh.mono hle6
  replace hbo := hbo.mono hle6
  replace r14_8 := r14_8.mono hle6
  replace hoy := hoy.mono hle6
  replace hj58 := hj58.mono hle6
  refine hK71 _ _ _ (hS.lose (List.nil_sublist _)) (fun _ h => h.forget hsub9 hle56) ?_
  refine r_q (i := 7) rfl rfl hF (hS.lose (List.nil_sublist _)) (q_fieldAddr fl134_0 (by decide) rfl) rfl (fun a hF => ?_)
  refine r_q (i := 8) rfl rfl hF (hS.lose (List.nil_sublist _)) (q_fieldAddr fl77_4 (by decide) rfl) rfl (fun a hF => ?_)
  refine r_one (i := 9) (by kernel_rfl) ?_
  refine r_lL rfl rfl rfl (fun K72 hK72 => l_store (vs := [_]) ty75 hF hS rfl rfl (i := 0) rfl rfl rfl rfl rfl (fun a w hF hS => hK72 _ _ ?_))
  refine r_done (by kernel_rfl) ?_
  exact hK58 (⟨y.st, y.fo, y.pub, y.da, y.dp, y.ds, ad2, cp2, v.hs.insertIdx p h⟩) _ _ _ hj58 (hF.meet trivial (by repeat first | exact Ext.remr _ _ | refine Ext.push rfl ?_ | refine Ext.rem' rfl ?_)) (St.cast hS (by simp only [Vw.c, List.length_insertIdx_of_le_length hp.le]; rfl)) ⟨⟨hoy.rdd, RdL.of_h (by rw [List.length_insertIdx_of_le_length hp.le]; exact hr6), hoy.dlen, by show (v.hs.insertIdx p h).length ≤ _; rw [List.length_insertIdx_of_le_length hp.le]; have := valid_len hgood.1; omega, hoy.dcap, by show (v.hs.insertIdx p h).length ≤ cp2; rw [List.length_insertIdx_of_le_length hp.le]; exact hO2.le⟩, hy1, hy2, hy3, hy4, p, hp, by rw [if_neg (by simpa using hc112)]⟩
  refine c_false hF rfl ?_
  refine wp_skip ?_
  exact hK58 (⟨y.st, y.fo, y.pub, y.da, y.dp, y.ds, v.ha, v.hp, v.hs⟩) _ _ _ hj58 (hF.meet trivial (by repeat first | exact Ext.remr _ _ | refine Ext.push rfl ?_ | refine Ext.rem' rfl ?_)) hS ⟨⟨hoy.rdd, ho.rdh, hoy.dlen, ho.hlen, hoy.dcap, ho.hcap⟩, hy1, hy2, hy3, hy4, p, hp, by rw [if_pos (by simpa using hc112)]⟩
  intro K50 hK50
  have hj50 := hS.rl
  refine c_seq (fun K73 hK73 => ?_)
  refine c_reg ?_
  obtain ⟨n, hn9⟩ : ∃ q : Vw, q = ⟨v.st, v.fo, v.pub, ad, cp, ds, some ⟨b8, 0, none⟩, 1, [h]⟩ := ⟨_, rfl⟩
  have hon := (show VwOK _ (⟨v.st, v.fo, v.pub, ad, cp, ds, some ⟨b8, 0, none⟩, 1, [h]⟩ : Vw) from ⟨hdr.mono hle, r14_8, by show ds.length ≤ _; omega, by show 1 ≤ 1000000; decide, hcp, Nat.le_refl 1⟩)
  rw [← hn9] at hon
  replace hS := St.cast (L' := [⟨b9, n.c, 134⟩] ++ [⟨b4, zFk.c, 82⟩, ⟨b3, zVw.c, 77⟩]) hS (by rw [hn9]; rfl)
  refine n_q hF hS (q_move rfl) rfl (fun a hF => ?_)
  refine n_q hF hS (q_len Tryd.underlying45 rfl rfl) rfl (fun a hF => ?_)
  refine n_q hF hS (q_fieldAddr fl77_3 (by decide) rfl) rfl (fun a hF => ?_)
  refine n_q hF hS (q_loadG (o := 0 + 3) (v := .slice v.da v.ds.length v.dp) ty45 rfl hbv.h (Nat.le_of_ble_eq_true rfl) rfl rfl) rfl (fun a hF => ?_)
  refine n_q hF hS (q_len Tryd.underlying45 rfl rfl) rfl (fun a hF => ?_)
  refine n_q hF hS (q_geq rfl rfl) rfl (fun a hF => ?_)
  refine hK73 _ _ ?_
  refine spd hF (s := 76) rfl (fun hc76 hF => ?_) (fun hc76 hF => ?_)
  refine c_true hF rfl ?_
  refine c_reg ?_
  refine n_q hF hS (q_load0 ty134 rfl (i := 0) rfl rfl rfl) rfl (fun a hF => ?_)
  refine n_q hF hS (q_fieldAddr fl77_4 (by decide) rfl) rfl (fun a hF => ?_)
  refine n_q hF hS (q_loadG (o := 0 + 4) (v := .slice v.ha v.hs.length v.hp) ty75 rfl hbv.h (Nat.le_of_ble_eq_true rfl) rfl rfl) rfl (fun a hF => ?_)
  refine n_l rfl (fun K74 hK74 => l_call en74 hF rfl rfl (accuse_c n v.hs v.ha v.hp ho.hlen _ _ hS.fz hg hon ho.rdh) (fun v74 w hR a hF => ?_))
  obtain ⟨rfl, hc⟩ := hR
  replace hS := hS.call0 hc
  refine hK74 _ _ ?_
  refine n_q hF hS (q_move rfl) rfl (fun a hF => ?_)
  refine n_q hF hS (q_extract (i := 0) rfl rfl) rfl (fun a hF => ?_)
  refine n_q hF hS (q_extract (i := 1) rfl rfl) rfl (fun a hF => ?_)
  refine n_l rfl (fun K75 hK75 => l_store0A ty82 hF hS rfl rfl (i := 1) rfl (by simp [dc_length, Hd.c_len, En.c_len, Fk.c_len, List.length_replicate, List.length_cons, List.length_nil, List.length_append]) (by simp [dc_length, Hd.c_len, En.c_len, Fk.c_len, List.length_replicate, List.length_cons, List.length_nil, List.length_append]) (Fk.c_all1 _) (fun a w hF hS => hK75 _ _ ?_))
  refine n_q hF hS (q_assign rfl) rfl (fun a hF => ?_)
  exact hK50 ((n, accO n v.hs)) _ _ _ hj50 (hF.meet ⟨rfl, trivial⟩ (by repeat first | exact Ext.remr _ _ | refine Ext.push rfl ?_ | refine Ext.rem' rfl ?_)) hS ⟨hon, fun f hf => accO_ok hon hf, accF_long (by omega) (by rw [hn9]; exact hds) (by rw [hn9]), by rw [hn9], by rw [hn9], by rw [hn9], by rw [if_pos (by omega), hn9]; exact hds⟩
  refine c_false hF rfl ?_
  refine c_seq (fun K76 hK76 => ?_)
  refine c_reg ?_
  refine n_q hF hS (q_loadG (o := 0) (v := .agg v.c.toArray) ty134 rfl hbo.h (Nat.le_of_ble_eq_true rfl) rfl rfl) rfl (fun a hF => ?_)
  refine n_q hF hS (q_fieldAddr fl134_0 (by decide) rfl) rfl (fun a hF => ?_)
  refine n_q hF hS (q_fieldAddr fl77_4 (by decide) rfl) rfl (fun a hF => ?_)
  refine n_q hF hS (q_load ty75 rfl (i := 0) rfl rfl rfl (show ldv false 1 n.c 4 = some (.slice n.ha n.hs.length n.hp) from rfl)) rfl (fun a hF => ?_)
  refine n_l rfl (fun K77 hK77 => l_call en74 hF rfl rfl (accuse_c v n.hs n.ha n.hp hon.hlen _ _ hS.fz hg ho hon.rdh) (fun v77 w hR a hF => ?_))
  obtain ⟨rfl, hc⟩ := hR
  replace hS := hS.call0 hc
  refine hK77 _ _ ?_
  refine n_q hF hS (q_move rfl) rfl (fun a hF => ?_)
  refine n_q hF hS (q_extract (i := 0) rfl rfl) rfl (fun a hF => ?_)
  refine n_q hF hS (q_extract (i := 1) rfl rfl) rfl (fun a hF => ?_)
  refine n_l rfl (fun K78 hK78 => l_store0A ty82 hF hS rfl rfl (i := 1) rfl (by simp [dc_length, Hd.c_len, En.c_len, Fk.c_len, List.length_replicate, List.length_cons, List.length_nil, List.length_append]) (by simp [dc_length, Hd.c_len, En.c_len, Fk.c_len, List.length_replicate, List.length_cons, List.length_nil, List.length_append]) (Fk.c_all1 _) (fun a w hF hS => hK78 _ _ ?_))
  refine n_q hF hS (q_assign rfl) rfl (fun a hF => ?_)
  refine hK76 _ _ ?_
  refine c_reg ?_
  refine n_q hF hS (q_fieldAddr fl77_3 (by decide) rfl) rfl (fun a hF => ?_)
  refine n_q hF hS (q_loadG (o := 0 + 3) (v := .slice v.da v.ds.length v.dp) ty45 rfl hbv.h (Nat.le_of_ble_eq_true rfl) rfl rfl) rfl (fun a hF => ?_)
  refine n_q hF hS (q_fieldAddr fl134_0 (by decide) rfl) rfl (fun a hF => ?_)
  refine n_q hF hS (q_fieldAddr fl77_3 (by decide) rfl) rfl (fun a hF => ?_)
  refine n_l rfl (fun K79 hK79 => l_store (vs := [_]) ty45 hF hS rfl rfl (i := 0) rfl rfl rfl rfl rfl (fun a w hF hS => hK79 _ _ ?_))
  exact hK50 ((⟨v.st, v.fo, v.pub, v.da, v.dp, v.ds, n.ha, n.hp, n.hs⟩, accO v n.hs)) _ _ _ hj50 (hF.meet ⟨rfl, trivial⟩ (by repeat first | exact Ext.remr _ _ | refine Ext.push rfl ?_ | refine Ext.rem' rfl ?_)) (St.cast hS (by rw [hn9]; rfl)) ⟨⟨ho.rdd, hon.rdh, ho.dlen, hon.hlen, ho.dcap, hon.hcap⟩, fun f hf => accO_ok ho hf, (by show (accO v n.hs).map Fk.key = _; rw [show n.hs = [h] by rw [hn9]]; exact accF_short (by omega)), rfl, rfl, rfl, by rw [if_neg (by omega)]⟩
end Go.Proofs.YtneokajhmonpaaaDoor

namespace Go.Proofs.YtneokajhmonpaaaDoor
open Go Go.RowKit Go.W
set_option maxRecDepth 10000
open Fx

theorem eqHd_p (a b : Hd) (w : World) : (Op.equalIn 10000 39 (.agg a.c.toArray) (.agg b.c.toArray)).run Tryd.prog w = .ok (tb (a = b)) w :=
  run_eqHd (T := 39) (tI := 3) (tD := 35) (tS := 37) (E := 5) Tryd.underlying39 (by kernel_rfl) (by simp) ⟨rfl, rfl, rfl, rfl, rfl⟩ ⟨rfl, rfl, rfl, rfl, rfl⟩ Tryd.underlying3 ty3 Tryd.underlying35 ty35 Tryd.underlying5 ty5 Tryd.underlying37 (by kernel_rfl) ty37 (by simp) ⟨rfl, rfl⟩ ⟨rfl, rfl⟩ w a b

theorem SameDigests_c (ds fs : List Dg) (al a2 : Option Addr) (cl c2 : Nat) (hn : ds.length ≤ 1000000) (w : World) (H : Froz) (hz : Fz H w) (hr : RdL H al 32 (dgE ds)) (hr2 : RdL H a2 32 (dgE fs)) :
    CallsR Tryd.prog 35 [.slice al ds.length cl, .slice a2 fs.length c2] w fun v w' => v = .bool (tb (ds = fs)) ∧ St ⟨w, H, []⟩ H [] w' := by
  refine calls_start Tryd.func35 rfl Tryd.ntmps35 rfl (fun a hF => ?_)
  have hS := St.start w H hz
  refine c_seq (fun K1 hK1 => ?_)
  refine c_reg ?_
  refine n_q hF hS (q_assign rfl) rfl (fun a hF => ?_)
  refine hK1 _ _ ?_
  refine c_seq (fun K2 hK2 => ?_)
  refine c_seq (fun K3 hK3 => ?_)
  refine c_reg ?_
  refine n_q hF hS (q_move rfl) rfl (fun a hF => ?_)
  refine n_q hF hS (q_len Tryd.underlying45 rfl rfl) rfl (fun a hF => ?_)
  refine n_q hF hS (q_move rfl) rfl (fun a hF => ?_)
  refine n_q hF hS (q_len Tryd.underlying45 rfl rfl) rfl (fun a hF => ?_)
  refine n_q hF hS (q_neI rfl rfl) rfl (fun a hF => ?_)
  refine hK3 _ _ ?_
  refine spn hF (s := 10) rfl (fun hc10 hF => ?_) (fun hc10 hF => ?_)
  refine c_true hF rfl ?_
  refine c_seq (fun K4 hK4 => ?_)
  refine c_reg ?_
  refine n_q hF hS (q_assign rfl) rfl (fun a hF => ?_)
  refine hK4 _ _ ?_
  refine c_ret ?_
  repeat (first | refine ret_then ?_ | refine ret_blk ?_)
  refine c_ret' (P := Tryd.prog) (fn := Tryd.f35) rfl hF hS (.tmp rfl .nil) ⟨_, rfl, ?_⟩
  exact ⟨by rw [tb_false (fun q => by subst q; omega)]; rfl, hS.same⟩
  refine c_false hF rfl ?_
  refine wp_skip ?_
  refine hK2 _ _ ?_
  refine c_seq (fun K5 hK5 => ?_)
  refine c_seq (fun K6 hK6 => ?_)
  refine c_reg ?_
  refine n_q hF hS (q_assign rfl) rfl (fun a hF => ?_)
  refine hK6 _ _ ?_
  refine c_block ?_
  refine c_loopL hF [4, 5, 11, 12, 13, 14, 15, 16, 17, 18, 19, 20, 21, 22, 23, 24, 25]
    (fun k : Nat => [(5, .int .i64 (k : Int))])
    (fun _ => [])
    (fun k _ => k ≤ ds.length ∧ ∀ (j : Nat) (x y : Dg), j < k → ds[j]? = some x → fs[j]? = some y → x = y)
    (fun k => ds.length - k) (0) ⟨rfl, trivial⟩ (hS) (⟨Nat.zero_le _, fun j x y h => absurd h (Nat.not_lt_zero _)⟩) ?_
  clear hF hS
  intro k a w H hle hF hS hJ
  replace hr := hr.mono hle
  replace hr2 := hr2.mono hle
  have hl0 := Le.refl H
  obtain ⟨hk, hno⟩ := hJ
  try dsimp only at hF hS hk
  refine c_seq (fun K7 hK7 => ?_)
  refine c_seq (fun K8 hK8 => ?_)
  refine c_reg ?_
  refine n_q hF hS (q_move rfl) rfl (fun a hF => ?_)
  refine n_q hF hS (q_move rfl) rfl (fun a hF => ?_)
  refine n_q hF hS (q_len Tryd.underlying45 rfl rfl) rfl (fun a hF => ?_)
  refine n_q hF hS (q_lss rfl rfl) rfl (fun a hF => ?_)
  refine hK8 _ _ ?_
  refine spd hF (s := 14) rfl (fun hc14 hF => ?_) (fun hc14 hF => ?_)
  refine c_true hF rfl ?_
  refine wp_skip ?_
  refine hK7 _ _ ?_
  refine c_seq (fun K9 hK9 => ?_)
  refine c_block ?_
  refine c_seq (fun K10 hK10 => ?_)
  have hlt : k < ds.length := by omega
  have hlt2 : k < fs.length := by omega
  obtain ⟨d, hd?d⟩ : ∃ q, q = ds[k] := ⟨_, rfl⟩
  have hd? : ds[k]? = some d := by rw [hd?d]; simp [hlt]
  have hel : (dgE ds)[k]? = some (dc d) := by simp [dgE, hd?]
  obtain ⟨e, he?d⟩ : ∃ q, q = fs[k] := ⟨_, rfl⟩
  have he? : fs[k]? = some e := by rw [he?d]; simp [hlt2]
  have hel2 : (dgE fs)[k]? = some (dc e) := by simp [dgE, he?]
  refine r_start (fun L => L) [] mo hS (fun w hS => ?_)
  refine r_q (i := 0) rfl rfl hF hS (q_move rfl) rfl (fun a hF => ?_)
  refine r_q (i := 1) rfl rfl hF hS (q_move rfl) rfl (fun a hF => ?_)
  refine r_q (i := 2) rfl rfl hF hS (q_indexAddrS Tryd.underlying45 ty35 rfl rfl (by omega) (hr.some (by simp only [dgE, List.length_map]; omega))) rfl (fun a hF => ?_)
  refine r_q (i := 3) rfl rfl hF hS (q_loadL0 (v := .agg (dc d).toArray) ty35 rfl hr hel (by decide) rfl (by simp only [ldv, cond_true, List.drop_zero]; rw [List.take_of_length_le (by rw [dc_length]; exact Nat.le_refl _)])) rfl (fun a hF => ?_)
  refine r_q (i := 4) rfl rfl hF hS (q_move rfl) rfl (fun a hF => ?_)
  refine r_q (i := 5) rfl rfl hF hS (q_move rfl) rfl (fun a hF => ?_)
  refine r_q (i := 6) rfl rfl hF hS (q_indexAddrS Tryd.underlying45 ty35 rfl rfl (by omega) (hr2.some (by simp only [dgE, List.length_map]; omega))) rfl (fun a hF => ?_)
  refine r_q (i := 7) rfl rfl hF hS (q_loadL0 (v := .agg (dc e).toArray) ty35 rfl hr2 hel2 (by decide) rfl (by simp only [ldv, cond_true, List.drop_zero]; rw [List.take_of_length_le (by rw [dc_length]; exact Nat.le_refl _)])) rfl (fun a hF => ?_)
  refine r_q (i := 8) rfl rfl hF hS (q_neDg gu35 Tryd.underlying35 Tryd.underlying5 ty5 rfl rfl) rfl (fun a hF => ?_)
  refine r_done (by kernel_rfl) ?_
  refine hK10 _ _ ?_
  refine spn hF (s := 25) rfl (fun hc25 hF => ?_) (fun hc25 hF => ?_)
  refine c_true hF rfl ?_
  refine c_seq (fun K11 hK11 => ?_)
  refine c_reg ?_
  refine n_q hF hS (q_assign rfl) rfl (fun a hF => ?_)
  refine hK11 _ _ ?_
  refine c_ret ?_
  repeat (first | refine ret_then ?_ | refine ret_blk ?_)
  refine c_ret' (P := Tryd.prog) (fn := Tryd.f35) rfl hF hS (.tmp rfl .nil) ⟨_, rfl, ?_⟩
  exact ⟨by rw [tb_false (ne_lists hd? he? hc25)]; rfl, hS.same⟩
  refine c_false hF rfl ?_
  refine wp_skip ?_
  refine hK9 _ _ ?_
  refine c_reg ?_
  refine n_q hF hS (q_move rfl) rfl (fun a hF => ?_)
  refine n_q hF hS (q_addI rfl rfl (by omega)) rfl (fun a hF => ?_)
  refine n_q hF hS (q_assign rfl) rfl (fun a hF => ?_)
  exact ⟨k + 1, _, (by show ds.length - (k + 1) < ds.length - k; omega), hl0, hF.back ⟨rfl, trivial⟩ rfl (by repeat first | exact Ext.refl _ _ | refine Ext.rem' rfl ?_ | refine Ext.push rfl ?_), hS.lose (.refl _), ⟨by show k + 1 ≤ ds.length; omega, fun j x y hj hx hy => by rcases Nat.lt_succ_iff_lt_or_eq.1 hj with hj | rfl; exact hno j x y hj hx hy; rw [hd?] at hx; rw [he?] at hy; rw [← Option.some.inj hx, ← Option.some.inj hy]; exact hc25⟩⟩
  refine c_false hF rfl ?_
  refine c_exit ?_
  refine hK5 _ _ ?_
  refine c_seq (fun K12 hK12 => ?_)
  refine c_reg ?_
  refine n_q hF hS (q_assign rfl) rfl (fun a hF => ?_)
  refine hK12 _ _ ?_
  refine c_ret ?_
  repeat (first | refine ret_then ?_ | refine ret_blk ?_)
  refine c_ret' (P := Tryd.prog) (fn := Tryd.f35) rfl hF hS (.tmp rfl .nil) ⟨_, rfl, ?_⟩
  exact ⟨by rw [tb_true (eq_lists (by omega) (fun j x y hx hy => hno j x y (by have := (List.getElem?_eq_some_iff.1 hx).1; omega) hx hy))]; rfl, hS.same⟩

theorem SameV_c (a_ b_ : Vw) (w : World) (H : Froz) (hz : Fz H w) (hoa : VwOK H a_) (hob : VwOK H b_) :
    CallsR Tryd.prog 42 [.agg a_.c.toArray, .agg b_.c.toArray] w fun v w' => v = .bool (tb (a_.key = b_.key)) ∧ St ⟨w, H, []⟩ H [] w' := by
  refine calls_start Tryd.func42 rfl Tryd.ntmps42 rfl (fun a hF => ?_)
  have hS := St.start w H hz
  have hah := hoa.hlen
  have had := hoa.dlen
  refine c_seq (fun K1 hK1 => ?_)
  refine c_reg ?_
  refine n_l rfl (fun K2 hK2 => l_boxA hF hS rfl rfl (fun a w b1 hF hS => hK2 _ _ ?_))
  refine n_l rfl (fun K3 hK3 => l_boxA hF hS rfl rfl (fun a w b2 hF hS => hK3 _ _ ?_))
  refine n_q hF hS (q_assign rfl) rfl (fun a hF => ?_)
  refine hK1 _ _ ?_
  refine c_seq (fun K4 hK4 => ?_)
  refine c_seq (fun K5 hK5 => ?_)
  refine c_reg ?_
  refine n_q hF hS (q_fieldAddr fl77_0 (by decide) rfl) rfl (fun a hF => ?_)
  refine n_q hF hS (q_load ty3 rfl (i := 1) rfl rfl rfl (show ldv false 1 a_.c 0 = some (.int .i64 a_.st) from rfl)) rfl (fun a hF => ?_)
  refine n_q hF hS (q_fieldAddr fl77_0 (by decide) rfl) rfl (fun a hF => ?_)
  refine n_q hF hS (q_load ty3 rfl (i := 0) rfl rfl rfl (show ldv false 1 b_.c 0 = some (.int .i64 b_.st) from rfl)) rfl (fun a hF => ?_)
  refine n_q hF hS (q_neI rfl rfl) rfl (fun a hF => ?_)
  refine n_q hF hS (q_move rfl) rfl (fun a hF => ?_)
  refine spn hF (s := 11) rfl (fun hc11 hF => ?_) (fun hc11 hF => ?_)
  refine n_no hF (b := true) rfl rfl rfl (fun a hF => ?_)
  refine n_no hF (b := true) rfl rfl rfl (fun a hF => ?_)
  refine n_no hF (b := true) rfl rfl rfl (fun a hF => ?_)
  refine n_no hF (b := true) rfl rfl rfl (fun a hF => ?_)
  refine n_no hF (b := true) rfl rfl rfl (fun a hF => ?_)
  refine n_q hF hS (q_pick (b := true) rfl rfl) rfl (fun a hF => ?_)
  refine n_q hF hS (q_move rfl) rfl (fun a hF => ?_)
  refine n_no hF (b := true) rfl rfl rfl (fun a hF => ?_)
  refine n_no hF (b := true) rfl rfl rfl (fun a hF => ?_)
  refine n_no hF (b := true) rfl rfl rfl (fun a hF => ?_)
  refine n_no hF (b := true) rfl rfl rfl (fun a hF => ?_)
  refine n_no hF (b := true) rfl rfl rfl (fun a hF => ?_)
  refine n_q hF hS (q_pick (b := true) rfl rfl) rfl (fun a hF => ?_)
  refine n_q hF hS (q_move rfl) rfl (fun a hF => ?_)
  refine n_no hF (b := true) rfl rfl rfl (fun a hF => ?_)
  refine n_no hF (b := true) rfl rfl rfl (fun a hF => ?_)
  refine n_no hF (b := true) rfl rfl rfl (fun a hF => ?_)
  refine n_no hF (b := true) rfl rfl rfl (fun a hF => ?_)
  refine n_no hF (b := true) rfl rfl rfl (fun a hF => ?_)
  refine n_no hF (b := true) rfl rfl rfl (fun a hF => ?_)
  refine n_q hF hS (q_pick (b := true) rfl rfl) rfl (fun a hF => ?_)
  refine n_q hF hS (q_move rfl) rfl (fun a hF => ?_)
  refine n_no hF (b := true) rfl rfl rfl (fun a hF => ?_)
  refine n_no hF (b := true) rfl rfl rfl (fun a hF => ?_)
  refine n_no hF (b := true) rfl rfl rfl (fun a hF => ?_)
  refine n_no hF (b := true) rfl rfl rfl (fun a hF => ?_)
  refine n_no hF (b := true) rfl rfl rfl (fun a hF => ?_)
  refine n_no hF (b := true) rfl rfl rfl (fun a hF => ?_)
  refine n_no hF (b := true) rfl rfl rfl (fun a hF => ?_)
  refine n_q hF hS (q_pick (b := true) rfl rfl) rfl (fun a hF => ?_)
  refine hK5 _ _ ?_
  refine c_true hF rfl ?_
  refine c_seq (fun K6 hK6 => ?_)
  refine c_reg ?_
  refine n_q hF hS (q_assign rfl) rfl (fun a hF => ?_)
  refine hK6 _ _ ?_
  refine c_ret ?_
  repeat (first | refine ret_then ?_ | refine ret_blk ?_)
  refine c_ret' (P := Tryd.prog) (fn := Tryd.f42) rfl hF hS (.tmp rfl .nil) ⟨_, rfl, ?_⟩
  have h9 : tb (a_.key = b_.key) = false := tb_false (fun q => by simp only [Vw.key, Prod.mk.injEq] at q; obtain ⟨q1, q2, q3, q4, q5⟩ := q; omega)
  exact ⟨by rw [h9]; rfl, hS.same⟩
  refine n_yes hF rfl ?_
  refine n_q hF hS (q_fieldAddr fl77_1 (by decide) rfl) rfl (fun a hF => ?_)
  refine n_yes hF rfl ?_
  refine n_q hF hS (q_load ty3 rfl (i := 1) rfl rfl rfl (show ldv false 1 a_.c 1 = some (.int .i64 a_.fo) from rfl)) rfl (fun a hF => ?_)
  refine n_yes hF rfl ?_
  refine n_q hF hS (q_fieldAddr fl77_1 (by decide) rfl) rfl (fun a hF => ?_)
  refine n_yes hF rfl ?_
  refine n_q hF hS (q_load ty3 rfl (i := 0) rfl rfl rfl (show ldv false 1 b_.c 1 = some (.int .i64 b_.fo) from rfl)) rfl (fun a hF => ?_)
  refine n_yes hF rfl ?_
  refine n_q hF hS (q_neI rfl rfl) rfl (fun a hF => ?_)
  refine n_q hF hS (q_pick (b := false) rfl rfl) rfl (fun a hF => ?_)
  refine n_q hF hS (q_move rfl) rfl (fun a hF => ?_)
  refine spn hF (s := 18) rfl (fun hc18 hF => ?_) (fun hc18 hF => ?_)
  refine n_no hF (b := true) rfl rfl rfl (fun a hF => ?_)
  refine n_no hF (b := true) rfl rfl rfl (fun a hF => ?_)
  refine n_no hF (b := true) rfl rfl rfl (fun a hF => ?_)
  refine n_no hF (b := true) rfl rfl rfl (fun a hF => ?_)
  refine n_no hF (b := true) rfl rfl rfl (fun a hF => ?_)
  refine n_q hF hS (q_pick (b := true) rfl rfl) rfl (fun a hF => ?_)
  refine n_q hF hS (q_move rfl) rfl (fun a hF => ?_)
  refine n_no hF (b := true) rfl rfl rfl (fun a hF => ?_)
  refine n_no hF (b := true) rfl rfl rfl (fun a hF => ?_)
  refine n_no hF (b := true) rfl rfl rfl (fun a hF => ?_)
  refine n_no hF (b := true) rfl rfl rfl (fun a hF => ?_)
  refine n_no hF (b := true) rfl rfl rfl (fun a hF => ?_)
  refine n_no hF (b := true) rfl rfl rfl (fun a hF => ?_)
  refine n_q hF hS (q_pick (b := true) rfl rfl) rfl (fun a hF => ?_)
  refine n_q hF hS (q_move rfl) rfl (fun a hF => ?_)
  refine n_no hF (b := true) rfl rfl rfl (fun a hF => ?_)
  refine n_no hF (b := true) rfl rfl rfl (fun a hF => ?_)
  refine n_no hF (b := true) rfl rfl rfl (fun a hF => ?_)
  refine n_no hF (b := true) rfl rfl rfl (fun a hF => ?_)
  refine n_no hF (b := true) rfl rfl rfl (fun a hF => ?_)
  refine n_no hF (b := true) rfl rfl rfl (fun a hF => ?_)
  refine n_no hF (b := true) rfl rfl rfl (fun a hF => ?_)
  refine n_q hF hS (q_pick (b := true) rfl rfl) rfl (fun a hF => ?_)
  refine hK5 _ _ ?_
  refine c_true hF rfl ?_
  refine c_seq (fun K7 hK7 => ?_)
  refine c_reg ?_
  refine n_q hF hS (q_assign rfl) rfl (fun a hF => ?_)
  refine hK7 _ _ ?_
  refine c_ret ?_
  repeat (first | refine ret_then ?_ | refine ret_blk ?_)
  refine c_ret' (P := Tryd.prog) (fn := Tryd.f42) rfl hF hS (.tmp rfl .nil) ⟨_, rfl, ?_⟩
  have h9 : tb (a_.key = b_.key) = false := tb_false (fun q => by simp only [Vw.key, Prod.mk.injEq] at q; obtain ⟨q1, q2, q3, q4, q5⟩ := q; omega)
  exact ⟨by rw [h9]; rfl, hS.same⟩
  refine n_yes hF rfl ?_
  refine n_q hF hS (q_fieldAddr fl77_2 (by decide) rfl) rfl (fun a hF => ?_)
  refine n_yes hF rfl ?_
  refine n_q hF hS (q_load ty3 rfl (i := 1) rfl rfl rfl (show ldv false 1 a_.c 2 = some (.int .i64 a_.pub) from rfl)) rfl (fun a hF => ?_)
  refine n_yes hF rfl ?_
  refine n_q hF hS (q_fieldAddr fl77_2 (by decide) rfl) rfl (fun a hF => ?_)
  refine n_yes hF rfl ?_
  refine n_q hF hS (q_load ty3 rfl (i := 0) rfl rfl rfl (show ldv false 1 b_.c 2 = some (.int .i64 b_.pub) from rfl)) rfl (fun a hF => ?_)
  refine n_yes hF rfl ?_
  refine n_q hF hS (q_neI rfl rfl) rfl (fun a hF => ?_)
  refine n_q hF hS (q_pick (b := false) rfl rfl) rfl (fun a hF => ?_)
  refine n_q hF hS (q_move rfl) rfl (fun a hF => ?_)
  refine spn hF (s := 25) rfl (fun hc25 hF => ?_) (fun hc25 hF => ?_)
  refine n_no hF (b := true) rfl rfl rfl (fun a hF => ?_)
  refine n_no hF (b := true) rfl rfl rfl (fun a hF => ?_)
  refine n_no hF (b := true) rfl rfl rfl (fun a hF => ?_)
  refine n_no hF (b := true) rfl rfl rfl (fun a hF => ?_)
  refine n_no hF (b := true) rfl rfl rfl (fun a hF => ?_)
  refine n_no hF (b := true) rfl rfl rfl (fun a hF => ?_)
  refine n_q hF hS (q_pick (b := true) rfl rfl) rfl (fun a hF => ?_)
  refine n_q hF hS (q_move rfl) rfl (fun a hF => ?_)
  refine n_no hF (b := true) rfl rfl rfl (fun a hF => ?_)
  refine n_no hF (b := true) rfl rfl rfl (fun a hF => ?_)
  refine n_no hF (b := true) rfl rfl rfl (fun a hF => ?_)
  refine n_no hF (b := true) rfl rfl rfl (fun a hF => ?_)
  refine n_no hF (b := true) rfl rfl rfl (fun a hF => ?_)
  refine n_no hF (b := true) rfl rfl rfl (fun a hF => ?_)
  refine n_no hF (b := true) rfl rfl rfl (fun a hF => ?_)
  refine n_q hF hS (q_pick (b := true) rfl rfl) rfl (fun a hF => ?_)
  refine hK5 _ _ ?_
  refine c_true hF rfl ?_
  refine c_seq (fun K8 hK8 => ?_)
  refine c_reg ?_
  refine n_q hF hS (q_assign rfl) rfl (fun a hF => ?_)
  refine hK8 _ _ ?_
  refine c_ret ?_
  repeat (first | refine ret_then ?_ | refine ret_blk ?_)
  refine c_ret' (P := Tryd.prog) (fn := Tryd.f42) rfl hF hS (.tmp rfl .nil) ⟨_, rfl, ?_⟩
  have h9 : tb (a_.key = b_.key) = false := tb_false (fun q => by simp only [Vw.key, Prod.mk.injEq] at q; obtain ⟨q1, q2, q3, q4, q5⟩ := q; omega)
  exact ⟨by rw [h9]; rfl, hS.same⟩
  refine n_yes hF rfl ?_
  refine n_q hF hS (q_fieldAddr fl77_3 (by decide) rfl) rfl (fun a hF => ?_)
  refine n_yes hF rfl ?_
  refine n_q hF hS (q_load ty45 rfl (i := 1) rfl rfl rfl (show ldv false 1 a_.c 3 = some (.slice a_.da a_.ds.length a_.dp) from rfl)) rfl (fun a hF => ?_)
  refine n_yes hF rfl ?_
  refine n_q hF hS (q_fieldAddr fl77_3 (by decide) rfl) rfl (fun a hF => ?_)
  refine n_yes hF rfl ?_
  refine n_q hF hS (q_load ty45 rfl (i := 0) rfl rfl rfl (show ldv false 1 b_.c 3 = some (.slice b_.da b_.ds.length b_.dp) from rfl)) rfl (fun a hF => ?_)
  refine n_yes hF rfl ?_
  refine n_l rfl (fun K9 hK9 => l_call en35 hF rfl rfl (SameDigests_c a_.ds b_.ds a_.da b_.da a_.dp b_.dp hoa.dlen _ _ hS.fz hoa.rdd hob.rdd) (fun v9 w hR a hF => ?_))
  obtain ⟨rfl, hc⟩ := hR
  replace hS := hS.call0 hc
  refine hK9 _ _ ?_
  refine n_yes hF rfl ?_
  refine n_q hF hS (q_not rfl) rfl (fun a hF => ?_)
  refine n_q hF hS (q_pick (b := false) rfl rfl) rfl (fun a hF => ?_)
  refine n_q hF hS (q_move rfl) rfl (fun a hF => ?_)
  refine sp hF (s := 33) rfl (fun hc33 hF => ?_) (fun hc33 hF => ?_)
  refine n_no hF (b := true) rfl rfl rfl (fun a hF => ?_)
  refine n_no hF (b := true) rfl rfl rfl (fun a hF => ?_)
  refine n_no hF (b := true) rfl rfl rfl (fun a hF => ?_)
  refine n_no hF (b := true) rfl rfl rfl (fun a hF => ?_)
  refine n_no hF (b := true) rfl rfl rfl (fun a hF => ?_)
  refine n_no hF (b := true) rfl rfl rfl (fun a hF => ?_)
  refine n_no hF (b := true) rfl rfl rfl (fun a hF => ?_)
  refine n_q hF hS (q_pick (b := true) rfl rfl) rfl (fun a hF => ?_)
  refine hK5 _ _ ?_
  refine c_true hF rfl ?_
  refine c_seq (fun K10 hK10 => ?_)
  refine c_reg ?_
  refine n_q hF hS (q_assign rfl) rfl (fun a hF => ?_)
  refine hK10 _ _ ?_
  refine c_ret ?_
  repeat (first | refine ret_then ?_ | refine ret_blk ?_)
  refine c_ret' (P := Tryd.prog) (fn := Tryd.f42) rfl hF hS (.tmp rfl .nil) ⟨_, rfl, ?_⟩
  have h9 : tb (a_.key = b_.key) = false := tb_false (fun q => by simp only [Vw.key, Prod.mk.injEq] at q; obtain ⟨q1, q2, q3, q4, q5⟩ := q; rw [tb_true q4] at hc33; cases hc33)
  exact ⟨by rw [h9]; rfl, hS.same⟩
  refine n_yes hF rfl ?_
  refine n_q hF hS (q_fieldAddr fl77_4 (by decide) rfl) rfl (fun a hF => ?_)
  refine n_yes hF rfl ?_
  refine n_q hF hS (q_load ty75 rfl (i := 1) rfl rfl rfl (show ldv false 1 a_.c 4 = some (.slice a_.ha a_.hs.length a_.hp) from rfl)) rfl (fun a hF => ?_)
  refine n_yes hF rfl ?_
  refine n_q hF hS (q_len Tryd.underlying75 rfl rfl) rfl (fun a hF => ?_)
  refine n_yes hF rfl ?_
  refine n_q hF hS (q_fieldAddr fl77_4 (by decide) rfl) rfl (fun a hF => ?_)
  refine n_yes hF rfl ?_
  refine n_q hF hS (q_load ty75 rfl (i := 0) rfl rfl rfl (show ldv false 1 b_.c 4 = some (.slice b_.ha b_.hs.length b_.hp) from rfl)) rfl (fun a hF => ?_)
  refine n_yes hF rfl ?_
  refine n_q hF hS (q_len Tryd.underlying75 rfl rfl) rfl (fun a hF => ?_)
  refine n_yes hF rfl ?_
  refine n_q hF hS (q_neI rfl rfl) rfl (fun a hF => ?_)
  refine n_q hF hS (q_pick (b := false) rfl rfl) rfl (fun a hF => ?_)
  refine hK5 _ _ ?_
  refine spn hF (s := 41) rfl (fun hc41 hF => ?_) (fun hc41 hF => ?_)
  refine c_true hF rfl ?_
  refine c_seq (fun K11 hK11 => ?_)
  refine c_reg ?_
  refine n_q hF hS (q_assign rfl) rfl (fun a hF => ?_)
  refine hK11 _ _ ?_
  refine c_ret ?_
  repeat (first | refine ret_then ?_ | refine ret_blk ?_)
  refine c_ret' (P := Tryd.prog) (fn := Tryd.f42) rfl hF hS (.tmp rfl .nil) ⟨_, rfl, ?_⟩
  have h9 : tb (a_.key = b_.key) = false := tb_false (fun q => by simp only [Vw.key, Prod.mk.injEq] at q; obtain ⟨q1, q2, q3, q4, q5⟩ := q; rw [q5] at hc41; exact hc41 rfl)
  exact ⟨by rw [h9]; rfl, hS.same⟩
  refine c_false hF rfl ?_
  refine wp_skip ?_
  refine hK4 _ _ ?_
  refine c_seq (fun K12 hK12 => ?_)
  refine c_seq (fun K13 hK13 => ?_)
  refine c_reg ?_
  refine n_q hF hS (q_assign rfl) rfl (fun a hF => ?_)
  refine hK13 _ _ ?_
  refine c_block ?_
  refine c_loopL hF [4, 5, 42, 43, 44, 45, 46, 47, 48, 49, 50, 51, 52, 53, 54, 55, 56, 57, 58, 59]
    (fun k : Nat => [(5, .int .i64 (k : Int))])
    (fun _ => [⟨b2, b_.c, 77⟩, ⟨b1, a_.c, 77⟩])
    (fun k _ => k ≤ a_.hs.length ∧ ∀ (j : Nat) (x y : Hd), j < k → a_.hs[j]? = some x → b_.hs[j]? = some y → x = y)
    (fun k => a_.hs.length - k) (0) ⟨rfl, trivial⟩ (hS) (⟨Nat.zero_le _, fun j x y h => absurd h (Nat.not_lt_zero _)⟩) ?_
  clear hF hS
  intro k a w H hle hF hS hJ
  replace hoa := hoa.mono hle
  replace hob := hob.mono hle
  have hl0 := Le.refl H
  obtain ⟨hk, hno⟩ := hJ
  try dsimp only at hF hS hk
  refine c_seq (fun K14 hK14 => ?_)
  refine c_seq (fun K15 hK15 => ?_)
  refine c_reg ?_
  refine n_q hF hS (q_move rfl) rfl (fun a hF => ?_)
  refine n_q hF hS (q_fieldAddr fl77_4 (by decide) rfl) rfl (fun a hF => ?_)
  refine n_q hF hS (q_load ty75 rfl (i := 1) rfl rfl rfl (show ldv false 1 a_.c 4 = some (.slice a_.ha a_.hs.length a_.hp) from rfl)) rfl (fun a hF => ?_)
  refine n_q hF hS (q_len Tryd.underlying75 rfl rfl) rfl (fun a hF => ?_)
  refine n_q hF hS (q_lss rfl rfl) rfl (fun a hF => ?_)
  refine hK15 _ _ ?_
  refine spd hF (s := 46) rfl (fun hc46 hF => ?_) (fun hc46 hF => ?_)
  refine c_true hF rfl ?_
  refine wp_skip ?_
  refine hK14 _ _ ?_
  refine c_seq (fun K16 hK16 => ?_)
  refine c_block ?_
  refine c_seq (fun K17 hK17 => ?_)
  have hlt : k < a_.hs.length := by omega
  obtain ⟨h, hhd⟩ : ∃ q, q = a_.hs[k] := ⟨_, rfl⟩
  have hh? : a_.hs[k]? = some h := by rw [hhd]; simp [hlt]
  have hel := hd_el hh?
  have hlt2 : k < b_.hs.length := by omega
  obtain ⟨h2, hh2d⟩ : ∃ q, q = b_.hs[k] := ⟨_, rfl⟩
  have hh2? : b_.hs[k]? = some h2 := by rw [hh2d]; simp [hlt2]
  have hel2 := hd_el hh2?
  refine r_start (fun L => L) [] mo hS (fun w hS => ?_)
  refine r_q (i := 0) rfl rfl hF hS (q_fieldAddr fl77_4 (by decide) rfl) rfl (fun a hF => ?_)
  refine r_q (i := 1) rfl rfl hF hS (q_load ty75 rfl (i := 1) rfl rfl rfl (show ldv false 1 a_.c 4 = some (.slice a_.ha a_.hs.length a_.hp) from rfl)) rfl (fun a hF => ?_)
  refine r_q (i := 2) rfl rfl hF hS (q_move rfl) rfl (fun a hF => ?_)
  refine r_q (i := 3) rfl rfl hF hS (q_indexAddrS Tryd.underlying75 ty39 rfl rfl (by omega) (hoa.rdh.some (by simp only [hdE, List.length_map]; omega))) rfl (fun a hF => ?_)
  refine r_q (i := 4) rfl rfl hF hS (q_loadL0 (v := .agg h.c.toArray) ty39 rfl hoa.rdh hel (by decide) rfl (Hd.ld_all h)) rfl (fun a hF => ?_)
  refine r_q (i := 5) rfl rfl hF hS (q_fieldAddr fl77_4 (by decide) rfl) rfl (fun a hF => ?_)
  refine r_q (i := 6) rfl rfl hF hS (q_load ty75 rfl (i := 0) rfl rfl rfl (show ldv false 1 b_.c 4 = some (.slice b_.ha b_.hs.length b_.hp) from rfl)) rfl (fun a hF => ?_)
  refine r_q (i := 7) rfl rfl hF hS (q_move rfl) rfl (fun a hF => ?_)
  refine r_q (i := 8) rfl rfl hF hS (q_indexAddrS Tryd.underlying75 ty39 rfl rfl (by omega) (hob.rdh.some (by simp only [hdE, List.length_map]; omega))) rfl (fun a hF => ?_)
  refine r_q (i := 9) rfl rfl hF hS (q_loadL0 (v := .agg h2.c.toArray) ty39 rfl hob.rdh hel2 (by decide) rfl (Hd.ld_all h2)) rfl (fun a hF => ?_)
  refine r_q (i := 10) rfl rfl hF hS (q_neHd gu39 (eqHd_p _ _) rfl rfl) rfl (fun a hF => ?_)
  refine r_done (by kernel_rfl) ?_
  refine hK17 _ _ ?_
  refine sp hF (s := 59) rfl (fun hc59 hF => ?_) (fun hc59 hF => ?_)
  refine c_true hF rfl ?_
  refine c_seq (fun K18 hK18 => ?_)
  refine c_reg ?_
  refine n_q hF hS (q_assign rfl) rfl (fun a hF => ?_)
  refine hK18 _ _ ?_
  refine c_ret ?_
  repeat (first | refine ret_then ?_ | refine ret_blk ?_)
  refine c_ret' (P := Tryd.prog) (fn := Tryd.f42) rfl hF hS (.tmp rfl .nil) ⟨_, rfl, ?_⟩
  have h9 : tb (a_.key = b_.key) = false := tb_false (fun q => by simp only [Vw.key, Prod.mk.injEq] at q; exact ne_lists hh? hh2? (tb_not (by simpa using hc59)) q.2.2.2.2)
  exact ⟨by rw [h9]; rfl, hS.same⟩
  refine c_false hF rfl ?_
  refine wp_skip ?_
  refine hK16 _ _ ?_
  refine c_reg ?_
  refine n_q hF hS (q_move rfl) rfl (fun a hF => ?_)
  refine n_q hF hS (q_addI rfl rfl (by omega)) rfl (fun a hF => ?_)
  refine n_q hF hS (q_assign rfl) rfl (fun a hF => ?_)
  exact ⟨k + 1, _, (by show a_.hs.length - (k + 1) < a_.hs.length - k; omega), hl0, hF.back ⟨rfl, trivial⟩ rfl (by repeat first | exact Ext.refl _ _ | refine Ext.rem' rfl ?_ | refine Ext.push rfl ?_), hS.lose (.refl _), ⟨by show k + 1 ≤ a_.hs.length; omega, fun j x y hj hx hy => by rcases Nat.lt_succ_iff_lt_or_eq.1 hj with hj | rfl; exact hno j x y hj hx hy; rw [hh?] at hx; rw [hh2?] at hy; rw [← Option.some.inj hx, ← Option.some.inj hy]; exact tb_iff.1 (by simpa using hc59)⟩⟩
  refine c_false hF rfl ?_
  refine c_exit ?_
  refine hK12 _ _ ?_
  refine c_seq (fun K19 hK19 => ?_)
  refine c_reg ?_
  refine n_q hF hS (q_assign rfl) rfl (fun a hF => ?_)
  refine hK19 _ _ ?_
  refine c_ret ?_
  repeat (first | refine ret_then ?_ | refine ret_blk ?_)
  refine c_ret' (P := Tryd.prog) (fn := Tryd.f42) rfl hF hS (.tmp rfl .nil) ⟨_, rfl, ?_⟩
  have h9 : tb (a_.key = b_.key) = true := tb_true (by simp only [Vw.key, Prod.mk.injEq]; exact ⟨by omega, by omega, by omega, tb_iff.1 (by simpa using hc33), eq_lists (by omega) (fun j x y hx hy => hno j x y (by have := (List.getElem?_eq_some_iff.1 hx).1; omega) hx hy)⟩)
  exact ⟨by rw [h9]; rfl, hS.same⟩

end Go.Proofs.YtneokajhmonpaaaDoor

namespace Go.Proofs.YtneokajhmonpaaaDoor
open Go Go.RowKit Go.W
set_option maxRecDepth 10000
open Fx

theorem open32_c (id priv f : Int) (w : World) (H : Froz) (hz : Fz H w) :
    CallsR Tryd.prog 29 [.int .i64 id, .int .i64 priv, .int .i64 f] w fun r w' => ∃ s ok, r = .tuple #[.agg (Sto.c s).toArray, .int .i64 (pubP priv).1, .bool ok] ∧ (ok = true ↔ OpenOK id priv f) ∧ (ok = true → s = ⟨id, priv, none, 0, []⟩) ∧ St ⟨w, H, []⟩ H [] w' := by
  refine calls_start Tryd.func29 rfl Tryd.ntmps29 rfl (fun a hF => ?_)
  have hS := St.start w H hz
  refine c_seq (fun K1 hK1 => ?_)
  refine c_reg ?_
  refine n_l rfl (fun K2 hK2 => l_alloc hF hS zr26 rfl (fun a w b1 hF hS => hK2 _ _ ?_))
  refine n_q hF hS (q_assign rfl) rfl (fun a hF => ?_)
  refine n_q hF hS (q_assign rfl) rfl (fun a hF => ?_)
  refine hK1 _ _ ?_
  refine c_seq (fun K3 hK3 => ?_)
  refine c_reg ?_
  refine n_q hF hS (q_move rfl) rfl (fun a hF => ?_)
  refine n_q hF hS (q_move rfl) rfl (fun a hF => ?_)
  refine n_l rfl (fun K4 hK4 => l_call en43 hF rfl rfl (New_c id priv _ _ hS.fz) (fun v4 w hR a hF => ?_))
  obtain ⟨rfl, hc⟩ := hR
  replace hS := hS.call0 hc
  refine hK4 _ _ ?_
  refine n_q hF hS (q_move rfl) rfl (fun a hF => ?_)
  refine n_q hF hS (q_extract (i := 0) rfl rfl) rfl (fun a hF => ?_)
  refine n_q hF hS (q_extract (i := 1) rfl rfl) rfl (fun a hF => ?_)
  refine n_l rfl (fun K5 hK5 => l_alloc hF hS zr26 rfl (fun a w b2 hF hS => hK5 _ _ ?_))
  refine n_l rfl (fun K6 hK6 => l_store0A ty26 hF hS rfl rfl (i := 0) rfl rfl rfl rfl (fun a w hF hS => hK6 _ _ ?_))
  refine n_q hF hS (q_assign rfl) rfl (fun a hF => ?_)
  refine hK3 _ _ ?_
  refine c_seq (fun K7 hK7 => ?_)
  refine c_reg ?_
  refine n_q hF hS (q_move rfl) rfl (fun a hF => ?_)
  refine n_l rfl (fun K8 hK8 => l_call en16 hF rfl rfl (Public_c priv _ _ hS.fz) (fun v8 w hR a hF => ?_))
  obtain ⟨rfl, hc⟩ := hR
  replace hS := hS.call0 hc
  refine hK8 _ _ ?_
  refine n_q hF hS (q_move rfl) rfl (fun a hF => ?_)
  refine n_q hF hS (q_extract (i := 0) rfl rfl) rfl (fun a hF => ?_)
  refine n_q hF hS (q_extract (i := 1) rfl rfl) rfl (fun a hF => ?_)
  refine n_q hF hS (q_assign rfl) rfl (fun a hF => ?_)
  refine n_q hF hS (q_assign rfl) rfl (fun a hF => ?_)
  refine hK7 _ _ ?_
  refine c_seq (fun K9 hK9 => ?_)
  refine c_reg ?_
  refine n_q hF hS (q_load0 ty26 rfl (i := 0) rfl rfl rfl) rfl (fun a hF => ?_)
  refine n_q hF hS (q_move rfl) rfl (fun a hF => ?_)
  refine n_q hF hS (q_move rfl) rfl (fun a hF => ?_)
  refine n_q hF hS (q_eqI rfl rfl) rfl (fun a hF => ?_)
  refine n_q hF hS (q_move rfl) rfl (fun a hF => ?_)
  refine spd hF (s := 28) rfl (fun hc28 hF => ?_) (fun hc28 hF => ?_)
  refine n_yes hF rfl ?_
  refine n_q hF hS (q_move rfl) rfl (fun a hF => ?_)
  refine n_yes hF rfl ?_
  refine n_q hF hS (q_eqI rfl rfl) rfl (fun a hF => ?_)
  refine n_q hF hS (q_pick (b := true) rfl rfl) rfl (fun a hF => ?_)
  refine n_q hF hS (q_move rfl) rfl (fun a hF => ?_)
  refine spd hF (s := 32) rfl (fun hc32 hF => ?_) (fun hc32 hF => ?_)
  refine n_yes hF rfl ?_
  refine n_q hF hS (q_move rfl) rfl (fun a hF => ?_)
  refine n_yes hF rfl ?_
  refine n_q hF hS (q_geq rfl rfl) rfl (fun a hF => ?_)
  refine n_q hF hS (q_pick (b := true) rfl rfl) rfl (fun a hF => ?_)
  refine n_q hF hS (q_move rfl) rfl (fun a hF => ?_)
  refine spd hF (s := 36) rfl (fun hc36 hF => ?_) (fun hc36 hF => ?_)
  refine n_yes hF rfl ?_
  refine n_q hF hS (q_move rfl) rfl (fun a hF => ?_)
  refine n_yes hF rfl ?_
  refine n_q hF hS (q_lss rfl rfl) rfl (fun a hF => ?_)
  refine n_q hF hS (q_pick (b := true) rfl rfl) rfl (fun a hF => ?_)
  refine n_l rfl (fun K10 hK10 => l_store0A ty26 hF hS rfl rfl (i := 1) rfl rfl rfl rfl (fun a w hF hS => hK10 _ _ ?_))
  refine n_q hF hS (q_assign rfl) rfl (fun a hF => ?_)
  refine n_q hF hS (q_assign rfl) rfl (fun a hF => ?_)
  refine hK9 _ _ ?_
  refine c_ret ?_
  repeat (first | refine ret_then ?_ | refine ret_blk ?_)
  refine c_ret' (P := Tryd.prog) (fn := Tryd.f29) rfl hF hS (.cell0 rfl ty26 (i := 1) rfl rfl rfl (.tmp rfl (.tmp rfl .nil))) ⟨_, rfl, ?_⟩
  refine ⟨⟨(newP id priv).1, (newP id priv).2.1, none, 0, []⟩, _, rfl, ?_, ?_, hS.same⟩
  · exact ⟨fun q => ⟨(newP_iff.1 hc28).1, (newP_iff.1 hc28).2, hc36, of_decide_eq_true q⟩, fun q => decide_eq_true q.2.2.2⟩
  · intro _; rw [newP_st hc28]
  refine n_no hF (b := false) rfl rfl rfl (fun a hF => ?_)
  refine n_no hF (b := false) rfl rfl rfl (fun a hF => ?_)
  refine n_q hF hS (q_pick (b := false) rfl rfl) rfl (fun a hF => ?_)
  refine n_l rfl (fun K11 hK11 => l_store0A ty26 hF hS rfl rfl (i := 1) rfl rfl rfl rfl (fun a w hF hS => hK11 _ _ ?_))
  refine n_q hF hS (q_assign rfl) rfl (fun a hF => ?_)
  refine n_q hF hS (q_assign rfl) rfl (fun a hF => ?_)
  refine hK9 _ _ ?_
  refine c_ret ?_
  repeat (first | refine ret_then ?_ | refine ret_blk ?_)
  refine c_ret' (P := Tryd.prog) (fn := Tryd.f29) rfl hF hS (.cell0 rfl ty26 (i := 1) rfl rfl rfl (.tmp rfl (.tmp rfl .nil))) ⟨_, rfl, ?_⟩
  refine ⟨⟨(newP id priv).1, (newP id priv).2.1, none, 0, []⟩, _, rfl, ?_, ?_, hS.same⟩
  · exact ⟨fun q => (by cases q), fun q => absurd q.2.2.1 hc36⟩
  · intro q; cases q
  refine n_no hF (b := false) rfl rfl rfl (fun a hF => ?_)
  refine n_no hF (b := false) rfl rfl rfl (fun a hF => ?_)
  refine n_q hF hS (q_pick (b := false) rfl rfl) rfl (fun a hF => ?_)
  refine n_q hF hS (q_move rfl) rfl (fun a hF => ?_)
  refine n_no hF (b := false) rfl rfl rfl (fun a hF => ?_)
  refine n_no hF (b := false) rfl rfl rfl (fun a hF => ?_)
  refine n_q hF hS (q_pick (b := false) rfl rfl) rfl (fun a hF => ?_)
  refine n_l rfl (fun K12 hK12 => l_store0A ty26 hF hS rfl rfl (i := 1) rfl rfl rfl rfl (fun a w hF hS => hK12 _ _ ?_))
  refine n_q hF hS (q_assign rfl) rfl (fun a hF => ?_)
  refine n_q hF hS (q_assign rfl) rfl (fun a hF => ?_)
  refine hK9 _ _ ?_
  refine c_ret ?_
  repeat (first | refine ret_then ?_ | refine ret_blk ?_)
  refine c_ret' (P := Tryd.prog) (fn := Tryd.f29) rfl hF hS (.cell0 rfl ty26 (i := 1) rfl rfl rfl (.tmp rfl (.tmp rfl .nil))) ⟨_, rfl, ?_⟩
  refine ⟨⟨(newP id priv).1, (newP id priv).2.1, none, 0, []⟩, _, rfl, ?_, ?_, hS.same⟩
  · exact ⟨fun q => (by cases q), fun q => absurd (pub_ok q.2.1) hc32⟩
  · intro q; cases q
  refine n_no hF (b := false) rfl rfl rfl (fun a hF => ?_)
  refine n_no hF (b := false) rfl rfl rfl (fun a hF => ?_)
  refine n_q hF hS (q_pick (b := false) rfl rfl) rfl (fun a hF => ?_)
  refine n_q hF hS (q_move rfl) rfl (fun a hF => ?_)
  refine n_no hF (b := false) rfl rfl rfl (fun a hF => ?_)
  refine n_no hF (b := false) rfl rfl rfl (fun a hF => ?_)
  refine n_q hF hS (q_pick (b := false) rfl rfl) rfl (fun a hF => ?_)
  refine n_q hF hS (q_move rfl) rfl (fun a hF => ?_)
  refine n_no hF (b := false) rfl rfl rfl (fun a hF => ?_)
  refine n_no hF (b := false) rfl rfl rfl (fun a hF => ?_)
  refine n_q hF hS (q_pick (b := false) rfl rfl) rfl (fun a hF => ?_)
  refine n_l rfl (fun K13 hK13 => l_store0A ty26 hF hS rfl rfl (i := 1) rfl rfl rfl rfl (fun a w hF hS => hK13 _ _ ?_))
  refine n_q hF hS (q_assign rfl) rfl (fun a hF => ?_)
  refine n_q hF hS (q_assign rfl) rfl (fun a hF => ?_)
  refine hK9 _ _ ?_
  refine c_ret ?_
  repeat (first | refine ret_then ?_ | refine ret_blk ?_)
  refine c_ret' (P := Tryd.prog) (fn := Tryd.f29) rfl hF hS (.cell0 rfl ty26 (i := 1) rfl rfl rfl (.tmp rfl (.tmp rfl .nil))) ⟨_, rfl, ?_⟩
  refine ⟨⟨(newP id priv).1, (newP id priv).2.1, none, 0, []⟩, _, rfl, ?_, ?_, hS.same⟩
  · exact ⟨fun q => (by cases q), fun q => absurd (newP_iff.2 ⟨q.1, q.2.1⟩) hc28⟩
  · intro q; cases q
end Go.Proofs.YtneokajhmonpaaaDoor

namespace Go.Proofs.YtneokajhmonpaaaDoor
open Go Go.RowKit Go.W
set_option maxRecDepth 10000
open Fx

set_option maxHeartbeats 800000 in
theorem entries32_c (data : List ByteArray) (al : Option Addr) (cl : Nat) (hn : data.length ≤ 8) (ht : totL data ≤ 400) (w : World) (H : Froz) (hz : Fz H w) (hg : Gl 0 1 H) (hr : RdL H al 1 (srE data)) :
    CallsR Tryd.prog 31 [.slice al data.length cl] w fun r w' => ∃ es ad cp H', r = .slice ad es.length cp ∧ Le H H' ∧ RdL H' ad 35 (enE es) ∧ EnsOK H' es ∧ es.length ≤ cp ∧ es.map En.key = comE data ∧ es.length = data.length ∧ St ⟨w, H, []⟩ H' [] w' := by
  refine calls_start Tryd.func31 rfl Tryd.ntmps31 rfl (fun a hF => ?_)
  have hS := St.start w H hz
  refine c_seq (fun K1 hK1 => ?_)
  refine c_reg ?_
  refine n_q hF hS (q_assign rfl) rfl (fun a hF => ?_)
  refine hK1 _ _ ?_
  refine c_seq (fun K2 hK2 => ?_)
  refine c_reg ?_
  refine n_q hF hS (q_assign rfl) rfl (fun a hF => ?_)
  refine hK2 _ _ ?_
  refine c_seq (fun K3 hK3 => ?_)
  refine c_seq (fun K4 hK4 => ?_)
  refine c_reg ?_
  refine n_q hF hS (q_assign rfl) rfl (fun a hF => ?_)
  refine hK4 _ _ ?_
  refine c_block ?_
  refine c_loopL hF [3, 4, 5, 6, 7, 8, 9, 10, 11, 12, 13, 14, 15, 16, 17, 18, 19, 20, 21, 22, 23, 24, 25]
    (fun g : Nat × List En × Option Addr × Nat × List Blk => [(3, .slice g.2.2.1 g.1 g.2.2.2.1), (4, .int .i64 (g.1 : Int))])
    (fun g => g.2.2.2.2 ++ [])
    (fun g H => g.1 ≤ data.length ∧ OwS 48 35 (.slice g.2.2.1 g.1 g.2.2.2.1) g.1 (enE g.2.1).flatten g.2.2.2.2 ∧ EnsOK H g.2.1 ∧ g.2.1.map En.key = (comE data).take g.1)
    (fun g => data.length - g.1) ((0, [], none, 0, [])) ⟨rfl, rfl, trivial⟩ (hS) (⟨Nat.zero_le _, .nil, (fun e he => by cases he), rfl⟩) ?_
  clear hF hS
  intro g a w H hle hF hS hJ
  replace hg := hg.mono hle
  replace hr := hr.mono hle
  have hl0 := Le.refl H
  obtain ⟨k, es, ad, cp, Lx⟩ := g
  obtain ⟨hk, hO, hoe, hke⟩ := hJ
  try dsimp only at hF hS hk hO hoe hke
  refine c_seq (fun K5 hK5 => ?_)
  refine c_seq (fun K6 hK6 => ?_)
  refine c_reg ?_
  refine n_q hF hS (q_move rfl) rfl (fun a hF => ?_)
  refine n_q hF hS (q_move rfl) rfl (fun a hF => ?_)
  refine n_q hF hS (q_len Tryd.underlying70 rfl rfl) rfl (fun a hF => ?_)
  refine n_q hF hS (q_lss rfl rfl) rfl (fun a hF => ?_)
  refine hK6 _ _ ?_
  refine spd hF (s := 8) rfl (fun hc8 hF => ?_) (fun hc8 hF => ?_)
  refine c_true hF rfl ?_
  refine wp_skip ?_
  refine hK5 _ _ ?_
  refine c_seq (fun K7 hK7 => ?_)
  refine c_block ?_
  have hlt : k < data.length := by omega
  obtain ⟨s, hsd⟩ : ∃ q, q = data[k] := ⟨_, rfl⟩
  have hs? : data[k]? = some s := by rw [hsd]; simp [hlt]
  have hel : (srE data)[k]? = some [.string s] := by simp [srE, hs?]
  have hst := tot_one hs?
  have hs2 : s.size = s.data.toList.length := by simp
  refine r_start (fun _ => []) [] mo hS (fun w hS => ?_)
  refine r_q (i := 0) rfl rfl hF (hS.lose (List.nil_sublist _)) (q_move rfl) rfl (fun a hF => ?_)
  refine r_q (i := 1) rfl rfl hF (hS.lose (List.nil_sublist _)) (q_move rfl) rfl (fun a hF => ?_)
  refine r_q (i := 2) rfl rfl hF (hS.lose (List.nil_sublist _)) (q_move rfl) rfl (fun a hF => ?_)
  refine r_q (i := 3) rfl rfl hF (hS.lose (List.nil_sublist _)) (q_indexAddrS Tryd.underlying70 ty9 rfl rfl (by omega) (hr.some (by simp only [srE, List.length_map]; omega))) rfl (fun a hF => ?_)
  refine r_q (i := 4) rfl rfl hF (hS.lose (List.nil_sublist _)) (q_loadL0 (v := .string s) ty9 rfl hr hel (by decide) rfl rfl) rfl (fun a hF => ?_)
  refine r_q (i := 7) rfl rfl hF (hS.lose (List.nil_sublist _)) (q_move rfl) rfl (fun a hF => ?_)
  refine r_q (i := 8) rfl rfl hF (hS.lose (List.nil_sublist _)) (q_move rfl) rfl (fun a hF => ?_)
  refine r_q (i := 9) rfl rfl hF (hS.lose (List.nil_sublist _)) (q_indexAddrS Tryd.underlying70 ty9 rfl rfl (by omega) (hr.some (by simp only [srE, List.length_map]; omega))) rfl (fun a hF => ?_)
  refine r_q (i := 10) rfl rfl hF (hS.lose (List.nil_sublist _)) (q_loadL0 (v := .string s) ty9 rfl hr hel (by decide) rfl rfl) rfl (fun a hF => ?_)
  refine r_two (i := 5) (j := 11) (by kernel_rfl) ?_ ?_
  have hsub := hS.sub
  refine r_li rfl rfl (fun K8 hK8 => l_convSB Tryd.underlying9 Tryd.underlying46 Tryd.underlying5 hF hS rfl rfl (fun a w H_r5_5 c_r5_5 ad_r5_5 hle_r5_5 hc_r5_5 r5_5 hF hS => ?_))
  replace hg := hg.mono hle_r5_5
  replace hr := hr.mono hle_r5_5
  replace hoe := hoe.mono hle_r5_5
  replace hl0 := hl0.mono hle_r5_5
  refine hK8 _ _ _ (hS.lose (List.nil_sublist _)) (fun _ h => h.forget hsub hle_r5_5) ?_
  refine r_two (i := 6) (j := 11) (by kernel_rfl) ?_ ?_
  have hsub := hS.sub
  refine r_li rfl rfl (fun K9 hK9 => l_call en22 hF rfl rfl (Digest_c 1 s.data.toList ad_r5_5 s.data.toList.length c_r5_5 (by omega) hc_r5_5 _ _ hS.fz hg r5_5) (fun v9 w hR a hF => ?_))
  obtain ⟨rfl, hc⟩ := hR
  replace hS := hS.call0 hc
  refine hK9 _ _ _ (hS.lose (List.nil_sublist _)) (fun _ h => h) ?_
  refine r_one (i := 11) (by kernel_rfl) ?_
  have hsub := hS.sub
  refine r_li rfl rfl (fun K10 hK10 => l_convSB Tryd.underlying9 Tryd.underlying46 Tryd.underlying5 hF hS rfl rfl (fun a w H_r5_11 c_r5_11 ad_r5_11 hle_r5_11 hc_r5_11 r5_11 hF hS => ?_))
  replace hg := hg.mono hle_r5_11
  replace hr := hr.mono hle_r5_11
  replace hoe := hoe.mono hle_r5_11
  replace hl0 := hl0.mono hle_r5_11
  replace r5_5 := r5_5.mono hle_r5_11
  refine hK10 _ _ _ (hS.lose (List.nil_sublist _)) (fun _ h => h.forget hsub hle_r5_11) ?_
  refine r_q (i := 12) rfl rfl hF (hS.lose (List.nil_sublist _)) (q_build (P := Tryd.prog) (T := 48) (cs := En.c ⟨1, digE 1 s.data.toList, ad_r5_11, s.data.toList.length, c_r5_11, s.data.toList, false⟩) zr48 pl48 rfl (bld_en 1 (digE 1 s.data.toList) ad_r5_11 s.data.toList.length c_r5_11 s.data.toList)) rfl (fun a hF => ?_)
  refine r_one (i := 13) (by kernel_rfl) ?_
  have hsub := hS.sub
  refine r_li rfl rfl (fun K11 hK11 => l_buildF (els := [En.c ⟨1, digE 1 s.data.toList, ad_r5_11, s.data.toList.length, c_r5_11, s.data.toList, false⟩]) Tryd.underlying31 ty48 zr48 hF hS rfl rfl rfl (fun e he => by rw [List.mem_singleton.1 he]; exact En.c_len _) rfl rfl rfl (fun a w b1 hF hle hS r5_13 => ?_))
  replace hg := hg.mono hle
  replace hr := hr.mono hle
  replace hoe := hoe.mono hle
  replace hl0 := hl0.mono hle
  replace r5_5 := r5_5.mono hle
  replace r5_11 := r5_11.mono hle
  refine hK11 _ _ _ (hS.lose (List.nil_sublist _)) (fun _ h => h.forget hsub hle) ?_
  refine r_one (i := 14) (by kernel_rfl) ?_
  refine r_li rfl rfl (fun K12 hK12 => l_append (L := []) Tryd.underlying31 ty48 zr48 bt48 hF hS rfl rfl (hO) (.slice Tryd.underlying31 r5_13.rd (by simp only [List.flatten_cons, List.flatten_nil, List.append_nil]; exact En.c_all1 _)) (by omega) (by simp only [maxLen]; omega) rfl rfl (fun a w c5_14 ad5_14 Lx5_14 ho5_14 hF hS => hK12 _ _ _ (hS.lose (List.nil_sublist _)) (fun _ h => h) ?_))
  refine r_q (i := 15) rfl rfl hF (hS.lose (List.nil_sublist _)) (q_assign rfl) rfl (fun a hF => ?_)
  refine r_done (by kernel_rfl) ?_
  refine hK7 _ _ ?_
  refine c_reg ?_
  refine n_q hF hS (q_move rfl) rfl (fun a hF => ?_)
  refine n_q hF hS (q_addI rfl rfl (by omega)) rfl (fun a hF => ?_)
  refine n_q hF hS (q_assign rfl) rfl (fun a hF => ?_)
  exact ⟨(k + 1, es ++ [⟨1, digE 1 s.data.toList, ad_r5_11, s.data.toList.length, c_r5_11, s.data.toList, false⟩], ad5_14, c5_14, Lx5_14), _, (by show data.length - (k + 1) < data.length - k; omega), hl0, hF.back ⟨rfl, rfl, trivial⟩ rfl (by repeat first | exact Ext.refl _ _ | refine Ext.rem' rfl ?_ | refine Ext.push rfl ?_), hS.lose (.refl _), ⟨by show k + 1 ≤ data.length; omega, by show OwS _ _ _ _ _ _; rw [enE_snoc]; exact ho5_14, fun e he => by rcases List.mem_append.1 he with he | he; exact hoe e he; rw [List.mem_singleton.1 he]; exact ⟨r5_11, hc_r5_11, by show s.data.toList.length ≤ _; omega⟩, com_snoc hs? hke rfl⟩⟩
  have hsub := hS.sub
  refine r_li rfl rfl (fun K13 hK13 => l_convSB Tryd.underlying9 Tryd.underlying46 Tryd.underlying5 hF hS rfl rfl (fun a w H_r5_11 c_r5_11 ad_r5_11 hle_r5_11 hc_r5_11 r5_11 hF hS => ?_))
  replace hg := hg.mono hle_r5_11
  replace hr := hr.mono hle_r5_11
  replace hoe := hoe.mono hle_r5_11
  replace hl0 := hl0.mono hle_r5_11
  replace r5_5 := r5_5.mono hle_r5_11
  refine hK13 _ _ _ (hS.lose (List.nil_sublist _)) (fun _ h => h.forget hsub hle_r5_11) ?_
  refine r_one (i := 6) (by kernel_rfl) ?_
  have hsub := hS.sub
  refine r_li rfl rfl (fun K14 hK14 => l_call en22 hF rfl rfl (Digest_c 1 s.data.toList ad_r5_5 s.data.toList.length c_r5_5 (by omega) hc_r5_5 _ _ hS.fz hg r5_5) (fun v14 w hR a hF => ?_))
  obtain ⟨rfl, hc⟩ := hR
  replace hS := hS.call0 hc
  refine hK14 _ _ _ (hS.lose (List.nil_sublist _)) (fun _ h => h) ?_
  refine r_q (i := 12) rfl rfl hF (hS.lose (List.nil_sublist _)) (q_build (P := Tryd.prog) (T := 48) (cs := En.c ⟨1, digE 1 s.data.toList, ad_r5_11, s.data.toList.length, c_r5_11, s.data.toList, false⟩) zr48 pl48 rfl (bld_en 1 (digE 1 s.data.toList) ad_r5_11 s.data.toList.length c_r5_11 s.data.toList)) rfl (fun a hF => ?_)
  refine r_one (i := 13) (by kernel_rfl) ?_
  have hsub := hS.sub
  refine r_li rfl rfl (fun K15 hK15 => l_buildF (els := [En.c ⟨1, digE 1 s.data.toList, ad_r5_11, s.data.toList.length, c_r5_11, s.data.toList, false⟩]) Tryd.underlying31 ty48 zr48 hF hS rfl rfl rfl (fun e he => by rw [List.mem_singleton.1 he]; exact En.c_len _) rfl rfl rfl (fun a w b2 hF hle hS r5_13 => ?_))
  replace hg := hg.mono hle
  replace hr := hr.mono hle
  replace hoe := hoe.mono hle
  replace hl0 := hl0.mono hle
  replace r5_5 := r5_5.mono hle
  replace r5_11 := r5_11.mono hle
  refine hK15 _ _ _ (hS.lose (List.nil_sublist _)) (fun _ h => h.forget hsub hle) ?_
  refine r_one (i := 14) (by kernel_rfl) ?_
  refine r_li rfl rfl (fun K16 hK16 => l_append (L := []) Tryd.underlying31 ty48 zr48 bt48 hF hS rfl rfl (hO) (.slice Tryd.underlying31 r5_13.rd (by simp only [List.flatten_cons, List.flatten_nil, List.append_nil]; exact En.c_all1 _)) (by omega) (by simp only [maxLen]; omega) rfl rfl (fun a w c5_14 ad5_14 Lx5_14 ho5_14 hF hS => hK16 _ _ _ (hS.lose (List.nil_sublist _)) (fun _ h => h) ?_))
  refine r_q (i := 15) rfl rfl hF (hS.lose (List.nil_sublist _)) (q_assign rfl) rfl (fun a hF => ?_)
  refine r_done (by kernel_rfl) ?_
  refine hK7 _ _ ?_
  refine c_reg ?_
  refine n_q hF hS (q_move rfl) rfl (fun a hF => ?_)
  refine n_q hF hS (q_addI rfl rfl (by omega)) rfl (fun a hF => ?_)
  refine n_q hF hS (q_assign rfl) rfl (fun a hF => ?_)
  exact ⟨(k + 1, es ++ [⟨1, digE 1 s.data.toList, ad_r5_11, s.data.toList.length, c_r5_11, s.data.toList, false⟩], ad5_14, c5_14, Lx5_14), _, (by show data.length - (k + 1) < data.length - k; omega), hl0, hF.back ⟨rfl, rfl, trivial⟩ rfl (by repeat first | exact Ext.refl _ _ | refine Ext.rem' rfl ?_ | refine Ext.push rfl ?_), hS.lose (.refl _), ⟨by show k + 1 ≤ data.length; omega, by show OwS _ _ _ _ _ _; rw [enE_snoc]; exact ho5_14, fun e he => by rcases List.mem_append.1 he with he | he; exact hoe e he; rw [List.mem_singleton.1 he]; exact ⟨r5_11, hc_r5_11, by show s.data.toList.length ≤ _; omega⟩, com_snoc hs? hke rfl⟩⟩
  have hsub := hS.sub
  refine r_li rfl rfl (fun K17 hK17 => l_convSB Tryd.underlying9 Tryd.underlying46 Tryd.underlying5 hF hS rfl rfl (fun a w H_r5_11 c_r5_11 ad_r5_11 hle_r5_11 hc_r5_11 r5_11 hF hS => ?_))
  replace hg := hg.mono hle_r5_11
  replace hr := hr.mono hle_r5_11
  replace hoe := hoe.mono hle_r5_11
  replace hl0 := hl0.mono hle_r5_11
  refine hK17 _ _ _ (hS.lose (List.nil_sublist _)) (fun _ h => h.forget hsub hle_r5_11) ?_
  refine r_one (i := 5) (by kernel_rfl) ?_
  have hsub := hS.sub
  refine r_li rfl rfl (fun K18 hK18 => l_convSB Tryd.underlying9 Tryd.underlying46 Tryd.underlying5 hF hS rfl rfl (fun a w H_r5_5 c_r5_5 ad_r5_5 hle_r5_5 hc_r5_5 r5_5 hF hS => ?_))
  replace hg := hg.mono hle_r5_5
  replace hr := hr.mono hle_r5_5
  replace hoe := hoe.mono hle_r5_5
  replace hl0 := hl0.mono hle_r5_5
  replace r5_11 := r5_11.mono hle_r5_5
  refine hK18 _ _ _ (hS.lose (List.nil_sublist _)) (fun _ h => h.forget hsub hle_r5_5) ?_
  refine r_one (i := 6) (by kernel_rfl) ?_
  have hsub := hS.sub
  refine r_li rfl rfl (fun K19 hK19 => l_call en22 hF rfl rfl (Digest_c 1 s.data.toList ad_r5_5 s.data.toList.length c_r5_5 (by omega) hc_r5_5 _ _ hS.fz hg r5_5) (fun v19 w hR a hF => ?_))
  obtain ⟨rfl, hc⟩ := hR
  replace hS := hS.call0 hc
  refine hK19 _ _ _ (hS.lose (List.nil_sublist _)) (fun _ h => h) ?_
  refine r_q (i := 12) rfl rfl hF (hS.lose (List.nil_sublist _)) (q_build (P := Tryd.prog) (T := 48) (cs := En.c ⟨1, digE 1 s.data.toList, ad_r5_11, s.data.toList.length, c_r5_11, s.data.toList, false⟩) zr48 pl48 rfl (bld_en 1 (digE 1 s.data.toList) ad_r5_11 s.data.toList.length c_r5_11 s.data.toList)) rfl (fun a hF => ?_)
  refine r_one (i := 13) (by kernel_rfl) ?_
  have hsub := hS.sub
  refine r_li rfl rfl (fun K20 hK20 => l_buildF (els := [En.c ⟨1, digE 1 s.data.toList, ad_r5_11, s.data.toList.length, c_r5_11, s.data.toList, false⟩]) Tryd.underlying31 ty48 zr48 hF hS rfl rfl rfl (fun e he => by rw [List.mem_singleton.1 he]; exact En.c_len _) rfl rfl rfl (fun a w b3 hF hle hS r5_13 => ?_))
  replace hg := hg.mono hle
  replace hr := hr.mono hle
  replace hoe := hoe.mono hle
  replace hl0 := hl0.mono hle
  replace r5_11 := r5_11.mono hle
  replace r5_5 := r5_5.mono hle
  refine hK20 _ _ _ (hS.lose (List.nil_sublist _)) (fun _ h => h.forget hsub hle) ?_
  refine r_one (i := 14) (by kernel_rfl) ?_
  refine r_li rfl rfl (fun K21 hK21 => l_append (L := []) Tryd.underlying31 ty48 zr48 bt48 hF hS rfl rfl (hO) (.slice Tryd.underlying31 r5_13.rd (by simp only [List.flatten_cons, List.flatten_nil, List.append_nil]; exact En.c_all1 _)) (by omega) (by simp only [maxLen]; omega) rfl rfl (fun a w c5_14 ad5_14 Lx5_14 ho5_14 hF hS => hK21 _ _ _ (hS.lose (List.nil_sublist _)) (fun _ h => h) ?_))
  refine r_q (i := 15) rfl rfl hF (hS.lose (List.nil_sublist _)) (q_assign rfl) rfl (fun a hF => ?_)
  refine r_done (by kernel_rfl) ?_
  refine hK7 _ _ ?_
  refine c_reg ?_
  refine n_q hF hS (q_move rfl) rfl (fun a hF => ?_)
  refine n_q hF hS (q_addI rfl rfl (by omega)) rfl (fun a hF => ?_)
  refine n_q hF hS (q_assign rfl) rfl (fun a hF => ?_)
  exact ⟨(k + 1, es ++ [⟨1, digE 1 s.data.toList, ad_r5_11, s.data.toList.length, c_r5_11, s.data.toList, false⟩], ad5_14, c5_14, Lx5_14), _, (by show data.length - (k + 1) < data.length - k; omega), hl0, hF.back ⟨rfl, rfl, trivial⟩ rfl (by repeat first | exact Ext.refl _ _ | refine Ext.rem' rfl ?_ | refine Ext.push rfl ?_), hS.lose (.refl _), ⟨by show k + 1 ≤ data.length; omega, by show OwS _ _ _ _ _ _; rw [enE_snoc]; exact ho5_14, fun e he => by rcases List.mem_append.1 he with he | he; exact hoe e he; rw [List.mem_singleton.1 he]; exact ⟨r5_11, hc_r5_11, by show s.data.toList.length ≤ _; omega⟩, com_snoc hs? hke rfl⟩⟩
  refine c_false hF rfl ?_
  refine c_exit ?_
  refine hK3 _ _ ?_
  refine c_seq (fun K22 hK22 => ?_)
  refine c_reg ?_
  refine n_q hF hS (q_move rfl) rfl (fun a hF => ?_)
  refine n_q hF hS (q_assign rfl) rfl (fun a hF => ?_)
  refine hK22 _ _ ?_
  refine c_ret ?_
  repeat (first | refine ret_then ?_ | refine ret_blk ?_)
  refine c_ret' (P := Tryd.prog) (fn := Tryd.f31) rfl hF hS (.tmp rfl .nil) ⟨_, rfl, ?_⟩
  obtain rfl : k = data.length := by omega
  have hel9 := com_len (Nat.le_refl _) hke
  have hcp := hO.le
  obtain ⟨H9, hle9, hS9, hr9⟩ := hO.freeze hS
  refine ⟨es, ad, cp, H9, ?_, hS9.le, RdL.of_en ?_, hoe.mono hle9, by omega, ?_, hel9, hS9.nil⟩
  · show Value.slice _ _ _ = _
    rw [hel9]
  · rw [hel9]; exact hr9
  · rw [hke, List.take_of_length_le (by simp [comE])]

theorem digests32_c (es : List En) (al : Option Addr) (cl : Nat) (hn : es.length ≤ 1000000) (w : World) (H : Froz) (hz : Fz H w) (hr : RdL H al 35 (enE es)) :
    CallsR Tryd.prog 36 [.slice al es.length cl] w fun r w' => ∃ ad cp H', r = .slice ad (es.map En.dg).length cp ∧ Le H H' ∧ RdL H' ad 32 (dgE (es.map En.dg)) ∧ (es.map En.dg).length ≤ cp ∧ St ⟨w, H, []⟩ H' [] w' := by
  refine calls_start Tryd.func36 rfl Tryd.ntmps36 rfl (fun a hF => ?_)
  have hS := St.start w H hz
  refine c_seq (fun K1 hK1 => ?_)
  refine c_reg ?_
  refine n_q hF hS (q_assign rfl) rfl (fun a hF => ?_)
  refine hK1 _ _ ?_
  refine c_seq (fun K2 hK2 => ?_)
  refine c_reg ?_
  refine n_q hF hS (q_assign rfl) rfl (fun a hF => ?_)
  refine hK2 _ _ ?_
  refine c_seq (fun K3 hK3 => ?_)
  refine c_seq (fun K4 hK4 => ?_)
  refine c_reg ?_
  refine n_q hF hS (q_assign rfl) rfl (fun a hF => ?_)
  refine hK4 _ _ ?_
  refine c_block ?_
  refine c_loopL hF [3, 4, 5, 6, 7, 8, 9, 10, 11, 12, 13, 14, 15, 16, 17, 18]
    (fun g : Nat × Option Addr × Nat × List Blk => [(3, .slice g.2.1 g.1 g.2.2.1), (4, .int .i64 (g.1 : Int))])
    (fun g => g.2.2.2 ++ [])
    (fun g _ => g.1 ≤ es.length ∧ OwS 35 32 (.slice g.2.1 g.1 g.2.2.1) g.1 (dgE ((es.map En.dg).take g.1)).flatten g.2.2.2)
    (fun g => es.length - g.1) ((0, none, 0, [])) ⟨rfl, rfl, trivial⟩ (hS) (⟨Nat.zero_le _, .nil⟩) ?_
  clear hF hS
  intro g a w H hle hF hS hJ
  replace hr := hr.mono hle
  have hl0 := Le.refl H
  obtain ⟨k, ad, cp, Lx⟩ := g
  obtain ⟨hk, hO⟩ := hJ
  try dsimp only at hF hS hk hO
  refine c_seq (fun K5 hK5 => ?_)
  refine c_seq (fun K6 hK6 => ?_)
  refine c_reg ?_
  refine n_q hF hS (q_move rfl) rfl (fun a hF => ?_)
  refine n_q hF hS (q_move rfl) rfl (fun a hF => ?_)
  refine n_q hF hS (q_len Tryd.underlying31 rfl rfl) rfl (fun a hF => ?_)
  refine n_q hF hS (q_lss rfl rfl) rfl (fun a hF => ?_)
  refine hK6 _ _ ?_
  refine spd hF (s := 8) rfl (fun hc8 hF => ?_) (fun hc8 hF => ?_)
  refine c_true hF rfl ?_
  refine wp_skip ?_
  refine hK5 _ _ ?_
  refine c_seq (fun K7 hK7 => ?_)
  refine c_block ?_
  refine c_reg ?_
  have hlt : k < es.length := by omega
  obtain ⟨e, hed⟩ : ∃ q, q = es[k] := ⟨_, rfl⟩
  have he? : es[k]? = some e := by rw [hed]; simp [hlt]
  have hel : (enE es)[k]? = some e.c := by simp [enE, he?]
  have hdd : (es.map En.dg)[k]? = some e.dg := by rw [List.getElem?_map, he?]; rfl
  refine n_q hF hS (q_move rfl) rfl (fun a hF => ?_)
  refine n_q hF hS (q_move rfl) rfl (fun a hF => ?_)
  refine n_q hF hS (q_move rfl) rfl (fun a hF => ?_)
  refine n_q hF hS (q_indexAddrS Tryd.underlying31 ty48 rfl rfl (by omega) (hr.some (by simp only [enE, List.length_map]; omega))) rfl (fun a hF => ?_)
  refine n_q hF hS (q_fieldAddrE fl48_1 (by decide) rfl) rfl (fun a hF => ?_)
  refine n_q hF hS (q_loadL (off := 1) (i := k) (v := .agg (dc e.dg).toArray) ty35 rfl hr hel (by decide) rfl (En.ld_dg e)) rfl (fun a hF => ?_)
  refine n_l rfl (fun K8 hK8 => l_buildF (els := [dc e.dg]) Tryd.underlying45 ty35 zr35 hF hS rfl rfl rfl (fun e he => by rw [List.mem_singleton.1 he]; exact dc_length _) rfl rfl rfl (fun a w b1 hF hle hS r5_6 => ?_))
  replace hr := hr.mono hle
  replace hl0 := hl0.mono hle
  refine hK8 _ _ ?_
  refine n_l rfl (fun K9 hK9 => l_append (L := []) Tryd.underlying45 ty35 zr35 bt35 hF hS rfl rfl (hO) (.slice Tryd.underlying45 r5_6.rd (by simp only [List.flatten_cons, List.flatten_nil, List.append_nil]; exact dc_all1 _)) (by omega) (by simp only [maxLen]; omega) rfl rfl (fun a w c5_7 ad5_7 Lx5_7 ho5_7 hF hS => hK9 _ _ ?_))
  refine n_q hF hS (q_assign rfl) rfl (fun a hF => ?_)
  refine hK7 _ _ ?_
  refine c_reg ?_
  refine n_q hF hS (q_move rfl) rfl (fun a hF => ?_)
  refine n_q hF hS (q_addI rfl rfl (by omega)) rfl (fun a hF => ?_)
  refine n_q hF hS (q_assign rfl) rfl (fun a hF => ?_)
  exact ⟨(k + 1, ad5_7, c5_7, Lx5_7), _, (by show es.length - (k + 1) < es.length - k; omega), hl0, hF.back ⟨rfl, rfl, trivial⟩ rfl (by repeat first | exact Ext.refl _ _ | refine Ext.rem' rfl ?_ | refine Ext.push rfl ?_), hS.lose (.refl _), ⟨by show k + 1 ≤ es.length; omega, by show OwS _ _ _ _ _ _; rw [dgE_snoc hdd]; exact ho5_7⟩⟩
  refine c_false hF rfl ?_
  refine c_exit ?_
  refine hK3 _ _ ?_
  refine c_seq (fun K10 hK10 => ?_)
  refine c_reg ?_
  refine n_q hF hS (q_move rfl) rfl (fun a hF => ?_)
  refine n_q hF hS (q_assign rfl) rfl (fun a hF => ?_)
  refine hK10 _ _ ?_
  refine c_ret ?_
  repeat (first | refine ret_then ?_ | refine ret_blk ?_)
  refine c_ret' (P := Tryd.prog) (fn := Tryd.f36) rfl hF hS (.tmp rfl .nil) ⟨_, rfl, ?_⟩
  obtain rfl : k = es.length := by omega
  rw [List.take_of_length_le (by simp)] at hO
  have hcp := hO.le
  obtain ⟨H9, hle9, hS9, hr9⟩ := hO.freeze hS
  refine ⟨ad, cp, H9, ?_, hS9.le, RdL.of_dg ?_, by rw [List.length_map]; exact hcp, hS9.nil⟩
  · show Value.slice _ _ _ = _
    rw [List.length_map]
  · rw [List.length_map]; exact hr9
end Go.Proofs.YtneokajhmonpaaaDoor

namespace Go.Proofs.YtneokajhmonpaaaDoor
open Go Go.RowKit Go.W
set_option maxRecDepth 10000
open Fx

set_option maxHeartbeats 3200000 in
theorem sane32_c (w : World) (H : Froz) (hz : Fz H w) (hg : Gl 0 1 H) :
    CallsR Tryd.prog 28 [] w fun v w' => v = .bool true ∧ St ⟨w, H, []⟩ H [] w' := by
  refine calls_start Tryd.func28 rfl Tryd.ntmps28 rfl (fun a hF => ?_)
  have hS := St.start w H hz
  refine c_seq (fun K1 hK1 => ?_)
  refine c_reg ?_
  refine n_q hF hS (q_assign rfl) rfl (fun a hF => ?_)
  refine hK1 _ _ ?_
  refine c_seq (fun K2 hK2 => ?_)
  refine c_reg ?_
  refine n_l rfl (fun K3 hK3 => l_call en29 hF rfl rfl (open32_c 0 5 3 _ _ hS.fz) (fun v3 w hR a hF => ?_))
  obtain ⟨s, ok, rfl, hok, hsd, hc⟩ := hR
  replace hS := hS.call0 hc
  obtain rfl : ok = true := hok.2 sane_open
  obtain rfl : s = newS 0 5 := hsd rfl
  refine hK3 _ _ ?_
  refine n_q hF hS (q_move rfl) rfl (fun a hF => ?_)
  refine n_q hF hS (q_extract (i := 0) rfl rfl) rfl (fun a hF => ?_)
  refine n_q hF hS (q_extract (i := 1) rfl rfl) rfl (fun a hF => ?_)
  refine n_q hF hS (q_extract (i := 2) rfl rfl) rfl (fun a hF => ?_)
  refine n_l rfl (fun K4 hK4 => l_alloc hF hS zr26 rfl (fun a w b1 hF hS => hK4 _ _ ?_))
  refine n_l rfl (fun K5 hK5 => l_store0A ty26 hF hS rfl rfl (i := 0) rfl rfl rfl rfl (fun a w hF hS => hK5 _ _ ?_))
  refine n_q hF hS (q_assign rfl) rfl (fun a hF => ?_)
  refine n_q hF hS (q_assign rfl) rfl (fun a hF => ?_)
  refine hK2 _ _ ?_
  refine c_seq (fun K6 hK6 => ?_)
  refine c_reg ?_
  refine n_l rfl (fun K7 hK7 => l_buildF (els := [[_]]) Tryd.underlying70 ty9 zr9 hF hS rfl rfl rfl (by simp [Value.cells, dc_length, Hd.c_len, En.c_len, Fk.c_len, List.length_replicate, List.length_cons, List.length_nil, List.length_append]) rfl rfl rfl (fun a w b2 hF hle hS r2_0 => ?_))
  replace hg := hg.mono hle
  refine hK7 _ _ ?_
  refine n_l rfl (fun K8 hK8 => l_call en31 hF rfl rfl (entries32_c [⟨#[97]⟩] (some ⟨b2, 0, none⟩) 1 (by decide) (by decide) _ _ hS.fz hg r2_0) (fun v8 w hR a hF => ?_))
  obtain ⟨es1, ad1, cp1, H1, rfl, hle1, hr1, hoe1, hcp1, hk1, hl1, hc⟩ := hR
  replace hS := hS.call hc
  replace hl1 : es1.length = 1 := hl1
  have hd1 := com_dgs hk1
  have hie1 := fun j e => com_at (j := j) (e := e) hk1
  replace hg := hg.mono hc.le
  replace r2_0 := r2_0.mono hc.le
  refine hK8 _ _ ?_
  refine n_l rfl (fun K9 hK9 => l_buildF (els := [[_], [_]]) Tryd.underlying70 ty9 zr9 hF hS rfl rfl rfl (by simp [Value.cells, dc_length, Hd.c_len, En.c_len, Fk.c_len, List.length_replicate, List.length_cons, List.length_nil, List.length_append]) rfl rfl rfl (fun a w b3 hF hle hS r2_2 => ?_))
  replace hg := hg.mono hle
  replace r2_0 := r2_0.mono hle
  replace hr1 := hr1.mono hle
  replace hoe1 := hoe1.mono hle
  refine hK9 _ _ ?_
  refine n_l rfl (fun K10 hK10 => l_call en31 hF rfl rfl (entries32_c [⟨#[97]⟩, ⟨#[98]⟩] (some ⟨b3, 0, none⟩) 2 (by decide) (by decide) _ _ hS.fz hg r2_2) (fun v10 w hR a hF => ?_))
  obtain ⟨es2, ad2, cp2, H2, rfl, hle2, hr2, hoe2, hcp2, hk2, hl2, hc⟩ := hR
  replace hS := hS.call hc
  replace hl2 : es2.length = 2 := hl2
  have hd2 := com_dgs hk2
  have hie2 := fun j e => com_at (j := j) (e := e) hk2
  replace hg := hg.mono hc.le
  replace r2_0 := r2_0.mono hc.le
  replace hr1 := hr1.mono hc.le
  replace hoe1 := hoe1.mono hc.le
  replace r2_2 := r2_2.mono hc.le
  refine hK10 _ _ ?_
  refine n_l rfl (fun K11 hK11 => l_buildF (els := [[_], [_]]) Tryd.underlying70 ty9 zr9 hF hS rfl rfl rfl (by simp [Value.cells, dc_length, Hd.c_len, En.c_len, Fk.c_len, List.length_replicate, List.length_cons, List.length_nil, List.length_append]) rfl rfl rfl (fun a w b4 hF hle hS r2_4 => ?_))
  replace hg := hg.mono hle
  replace r2_0 := r2_0.mono hle
  replace hr1 := hr1.mono hle
  replace hoe1 := hoe1.mono hle
  replace r2_2 := r2_2.mono hle
  replace hr2 := hr2.mono hle
  replace hoe2 := hoe2.mono hle
  refine hK11 _ _ ?_
  refine n_l rfl (fun K12 hK12 => l_call en31 hF rfl rfl (entries32_c [⟨#[97]⟩, ⟨#[99]⟩] (some ⟨b4, 0, none⟩) 2 (by decide) (by decide) _ _ hS.fz hg r2_4) (fun v12 w hR a hF => ?_))
  obtain ⟨es3, ad3, cp3, H3, rfl, hle3, hr3, hoe3, hcp3, hk3, hl3, hc⟩ := hR
  replace hS := hS.call hc
  replace hl3 : es3.length = 2 := hl3
  have hd3 := com_dgs hk3
  have hie3 := fun j e => com_at (j := j) (e := e) hk3
  replace hg := hg.mono hc.le
  replace r2_0 := r2_0.mono hc.le
  replace hr1 := hr1.mono hc.le
  replace hoe1 := hoe1.mono hc.le
  replace r2_2 := r2_2.mono hc.le
  replace hr2 := hr2.mono hc.le
  replace hoe2 := hoe2.mono hc.le
  replace r2_4 := r2_4.mono hc.le
  refine hK12 _ _ ?_
  refine n_q hF hS (q_assign rfl) rfl (fun a hF => ?_)
  refine n_q hF hS (q_assign rfl) rfl (fun a hF => ?_)
  refine n_q hF hS (q_assign rfl) rfl (fun a hF => ?_)
  refine hK6 _ _ ?_
  refine c_seq (fun K13 hK13 => ?_)
  refine c_reg ?_
  refine n_q hF hS (q_load0 ty26 rfl (i := 0) rfl rfl rfl) rfl (fun a hF => ?_)
  refine n_l rfl (fun K14 hK14 => l_call en15 hF rfl rfl (StSign_c (newS 0 5) 3 [] none 0 (by decide) _ _ hS.fz hg (newS_good sane_open _).ok (RdL.nil _ _ _)) (fun v14 w hR a hF => ?_))
  obtain ⟨hv, hc⟩ := hR
  rw [newS_sign sane_open (by decide)] at hv
  have hmk0 : MkH 0 5 3 (List.map En.dg []) (signH (newS 0 5) 3 (List.map En.dg [])) := mk_facts sane_open (by rw [List.length_map]; decide)
  obtain ⟨k0, hxk0⟩ : ∃ q, q = signH (newS 0 5) 3 (List.map En.dg []) := ⟨_, rfl⟩
  rw [← hxk0] at hv hmk0
  subst hv
  replace hS := hS.call0 hc
  refine hK14 _ _ ?_
  refine n_q hF hS (q_move rfl) rfl (fun a hF => ?_)
  refine n_q hF hS (q_extract (i := 0) rfl rfl) rfl (fun a hF => ?_)
  refine n_q hF hS (q_extract (i := 1) rfl rfl) rfl (fun a hF => ?_)
  refine n_l rfl (fun K15 hK15 => l_alloc hF hS zr39 rfl (fun a w b5 hF hS => hK15 _ _ ?_))
  refine n_l rfl (fun K16 hK16 => l_store0A ty39 hF hS rfl rfl (i := 0) rfl (by simp [dc_length, Hd.c_len, En.c_len, Fk.c_len, List.length_replicate, List.length_cons, List.length_nil, List.length_append]) (by simp [dc_length, Hd.c_len, En.c_len, Fk.c_len, List.length_replicate, List.length_cons, List.length_nil, List.length_append]) (Hd.c_all1 _) (fun a w hF hS => hK16 _ _ ?_))
  refine n_q hF hS (q_assign rfl) rfl (fun a hF => ?_)
  refine hK13 _ _ ?_
  refine c_seq (fun K17 hK17 => ?_)
  refine c_reg ?_
  refine n_q hF hS (q_load0 ty26 rfl (i := 1) rfl rfl rfl) rfl (fun a hF => ?_)
  refine n_q hF hS (q_move rfl) rfl (fun a hF => ?_)
  refine n_l rfl (fun K18 hK18 => l_call en15 hF rfl rfl (StSign_c (newS 0 5) 3 es2 ad2 cp2 (by omega) _ _ hS.fz hg (newS_good sane_open _).ok hr2) (fun v18 w hR a hF => ?_))
  obtain ⟨hv, hc⟩ := hR
  rw [newS_sign sane_open (by omega)] at hv
  have hmk2 : MkH 0 5 3 (List.map En.dg es2) (signH (newS 0 5) 3 (List.map En.dg es2)) := mk_facts sane_open (by rw [List.length_map]; omega)
  obtain ⟨k2, hxk2⟩ : ∃ q, q = signH (newS 0 5) 3 (List.map En.dg es2) := ⟨_, rfl⟩
  rw [← hxk2] at hv hmk2
  subst hv
  replace hS := hS.call0 hc
  refine hK18 _ _ ?_
  refine n_q hF hS (q_move rfl) rfl (fun a hF => ?_)
  refine n_q hF hS (q_extract (i := 0) rfl rfl) rfl (fun a hF => ?_)
  refine n_q hF hS (q_extract (i := 1) rfl rfl) rfl (fun a hF => ?_)
  refine n_l rfl (fun K19 hK19 => l_alloc hF hS zr39 rfl (fun a w b6 hF hS => hK19 _ _ ?_))
  refine n_l rfl (fun K20 hK20 => l_store0A ty39 hF hS rfl rfl (i := 0) rfl (by simp [dc_length, Hd.c_len, En.c_len, Fk.c_len, List.length_replicate, List.length_cons, List.length_nil, List.length_append]) (by simp [dc_length, Hd.c_len, En.c_len, Fk.c_len, List.length_replicate, List.length_cons, List.length_nil, List.length_append]) (Hd.c_all1 _) (fun a w hF hS => hK20 _ _ ?_))
  refine n_q hF hS (q_assign rfl) rfl (fun a hF => ?_)
  refine hK17 _ _ ?_
  refine c_seq (fun K21 hK21 => ?_)
  refine c_reg ?_
  refine n_q hF hS (q_load0 ty26 rfl (i := 2) rfl rfl rfl) rfl (fun a hF => ?_)
  refine n_q hF hS (q_move rfl) rfl (fun a hF => ?_)
  refine n_l rfl (fun K22 hK22 => l_call en15 hF rfl rfl (StSign_c (newS 0 5) 3 es3 ad3 cp3 (by omega) _ _ hS.fz hg (newS_good sane_open _).ok hr3) (fun v22 w hR a hF => ?_))
  obtain ⟨hv, hc⟩ := hR
  rw [newS_sign sane_open (by omega)] at hv
  have hmk3 : MkH 0 5 3 (List.map En.dg es3) (signH (newS 0 5) 3 (List.map En.dg es3)) := mk_facts sane_open (by rw [List.length_map]; omega)
  obtain ⟨k3, hxk3⟩ : ∃ q, q = signH (newS 0 5) 3 (List.map En.dg es3) := ⟨_, rfl⟩
  rw [← hxk3] at hv hmk3
  subst hv
  replace hS := hS.call0 hc
  refine hK22 _ _ ?_
  refine n_q hF hS (q_move rfl) rfl (fun a hF => ?_)
  refine n_q hF hS (q_extract (i := 0) rfl rfl) rfl (fun a hF => ?_)
  refine n_q hF hS (q_extract (i := 1) rfl rfl) rfl (fun a hF => ?_)
  refine n_l rfl (fun K23 hK23 => l_alloc hF hS zr39 rfl (fun a w b7 hF hS => hK23 _ _ ?_))
  refine n_l rfl (fun K24 hK24 => l_store0A ty39 hF hS rfl rfl (i := 0) rfl (by simp [dc_length, Hd.c_len, En.c_len, Fk.c_len, List.length_replicate, List.length_cons, List.length_nil, List.length_append]) (by simp [dc_length, Hd.c_len, En.c_len, Fk.c_len, List.length_replicate, List.length_cons, List.length_nil, List.length_append]) (Hd.c_all1 _) (fun a w hF hS => hK24 _ _ ?_))
  refine n_q hF hS (q_assign rfl) rfl (fun a hF => ?_)
  refine hK21 _ _ ?_
  refine c_seq (fun K25 hK25 => ?_)
  refine c_reg ?_
  refine n_q hF hS (q_load0 ty26 rfl (i := 3) rfl rfl rfl) rfl (fun a hF => ?_)
  refine n_q hF hS (q_move rfl) rfl (fun a hF => ?_)
  refine n_l rfl (fun K26 hK26 => l_call en15 hF rfl rfl (StSign_c (newS 0 5) 3 es1 ad1 cp1 (by omega) _ _ hS.fz hg (newS_good sane_open _).ok hr1) (fun v26 w hR a hF => ?_))
  obtain ⟨hv, hc⟩ := hR
  rw [newS_sign sane_open (by omega)] at hv
  have hmk1 : MkH 0 5 3 (List.map En.dg es1) (signH (newS 0 5) 3 (List.map En.dg es1)) := mk_facts sane_open (by rw [List.length_map]; omega)
  obtain ⟨k1, hxk1⟩ : ∃ q, q = signH (newS 0 5) 3 (List.map En.dg es1) := ⟨_, rfl⟩
  rw [← hxk1] at hv hmk1
  subst hv
  replace hS := hS.call0 hc
  refine hK26 _ _ ?_
  refine n_q hF hS (q_move rfl) rfl (fun a hF => ?_)
  refine n_q hF hS (q_extract (i := 0) rfl rfl) rfl (fun a hF => ?_)
  refine n_q hF hS (q_extract (i := 1) rfl rfl) rfl (fun a hF => ?_)
  refine n_l rfl (fun K27 hK27 => l_alloc hF hS zr39 rfl (fun a w b8 hF hS => hK27 _ _ ?_))
  refine n_l rfl (fun K28 hK28 => l_store0A ty39 hF hS rfl rfl (i := 0) rfl (by simp [dc_length, Hd.c_len, En.c_len, Fk.c_len, List.length_replicate, List.length_cons, List.length_nil, List.length_append]) (by simp [dc_length, Hd.c_len, En.c_len, Fk.c_len, List.length_replicate, List.length_cons, List.length_nil, List.length_append]) (Hd.c_all1 _) (fun a w hF hS => hK28 _ _ ?_))
  refine n_q hF hS (q_assign rfl) rfl (fun a hF => ?_)
  refine hK25 _ _ ?_
  refine c_seq (fun K29 hK29 => ?_)
  refine c_reg ?_
  refine n_q hF hS (q_move rfl) rfl (fun a hF => ?_)
  refine n_l rfl (fun K30 hK30 => l_call en38 hF rfl rfl (VNew_c 0 3 (pubP 5).1 _ _ hS.fz) (fun v30 w hR a hF => ?_))
  obtain ⟨rfl, hc⟩ := hR
  replace hS := hS.call0 hc
  refine hK30 _ _ ?_
  refine n_l rfl (fun K31 hK31 => l_alloc hF hS zr77 rfl (fun a w b9 hF hS => hK31 _ _ ?_))
  refine n_l rfl (fun K32 hK32 => l_store0A ty77 hF hS rfl rfl (i := 0) rfl rfl rfl rfl (fun a w hF hS => hK32 _ _ ?_))
  refine hK29 _ _ ?_
  refine c_seq (fun K33 hK33 => ?_)
  refine c_reg ?_
  refine n_q hF hS (q_load0 ty77 rfl (i := 0) rfl rfl rfl) rfl (fun a hF => ?_)
  refine n_q hF hS (q_load0 ty39 rfl (i := 4) rfl (by simp [dc_length, Hd.c_len, En.c_len, Fk.c_len, List.length_replicate, List.length_cons, List.length_nil, List.length_append]) rfl) rfl (fun a hF => ?_)
  refine n_l rfl (fun K34 hK34 => l_call en37 hF rfl rfl (Accept_c (Vw.mk 0 3 (pubP 5).1 none 0 [] none 0 []) [] none 0 k0 (by decide) _ _ hS.fz hg (VwOK.new _ _ _ _) (RdL.nil _ _ _) (fun _ h => by cases h)) (fun v34 w hR a hF => ?_))
  obtain ⟨x, fx, ex, Hx, rfl, hlex, hox, hofx, harx, hc⟩ := hR
  replace hS := hS.call hc
  obtain ⟨hfx, rfl, hv1x⟩ := acc_new (VOf.new sane_open []) rfl hmk0 rfl (fun j e h => by cases h) harx
  replace hg := hg.mono hc.le
  replace r2_0 := r2_0.mono hc.le
  replace hr1 := hr1.mono hc.le
  replace hoe1 := hoe1.mono hc.le
  replace r2_2 := r2_2.mono hc.le
  replace hr2 := hr2.mono hc.le
  replace hoe2 := hoe2.mono hc.le
  replace r2_4 := r2_4.mono hc.le
  replace hr3 := hr3.mono hc.le
  replace hoe3 := hoe3.mono hc.le
  refine hK34 _ _ ?_
  refine n_q hF hS (q_move rfl) rfl (fun a hF => ?_)
  refine n_q hF hS (q_extract (i := 0) rfl rfl) rfl (fun a hF => ?_)
  refine n_q hF hS (q_extract (i := 1) rfl rfl) rfl (fun a hF => ?_)
  refine n_q hF hS (q_extract (i := 2) rfl rfl) rfl (fun a hF => ?_)
  refine n_l rfl (fun K35 hK35 => l_alloc hF hS zr77 rfl (fun a w b10 hF hS => hK35 _ _ ?_))
  refine n_l rfl (fun K36 hK36 => l_alloc hF hS zr82 rfl (fun a w b11 hF hS => hK36 _ _ ?_))
  refine n_l rfl (fun K37 hK37 => l_store0A ty77 hF hS rfl rfl (i := 1) rfl rfl rfl rfl (fun a w hF hS => hK37 _ _ ?_))
  refine n_l rfl (fun K38 hK38 => l_store0A ty82 hF hS rfl rfl (i := 0) rfl (by simp [dc_length, Hd.c_len, En.c_len, Fk.c_len, List.length_replicate, List.length_cons, List.length_nil, List.length_append]) (by simp [dc_length, Hd.c_len, En.c_len, Fk.c_len, List.length_replicate, List.length_cons, List.length_nil, List.length_append]) (Fk.c_all1 _) (fun a w hF hS => hK38 _ _ ?_))
  refine n_q hF hS (q_assign rfl) rfl (fun a hF => ?_)
  refine hK33 _ _ ?_
  refine c_seq (fun K39 hK39 => ?_)
  refine c_reg ?_
  refine n_q hF hS (q_load0 ty77 rfl (i := 2) rfl rfl rfl) rfl (fun a hF => ?_)
  refine n_q hF hS (q_move rfl) rfl (fun a hF => ?_)
  refine n_q hF hS (q_load0 ty39 rfl (i := 5) rfl (by simp [dc_length, Hd.c_len, En.c_len, Fk.c_len, List.length_replicate, List.length_cons, List.length_nil, List.length_append]) rfl) rfl (fun a hF => ?_)
  refine n_l rfl (fun K40 hK40 => l_call en37 hF rfl rfl (Accept_c (Vw.mk 0 3 (pubP 5).1 none 0 [] none 0 []) es2 ad2 cp2 k2 (by omega) _ _ hS.fz hg (VwOK.new _ _ _ _) hr2 hoe2) (fun v40 w hR a hF => ?_))
  obtain ⟨y, fy, ey, Hy, rfl, hley, hoy, hofy, hary, hc⟩ := hR
  replace hS := hS.call hc
  obtain ⟨hfy, rfl, hv1y⟩ := acc_new (VOf.new sane_open []) rfl hmk2 rfl hie2 hary
  replace hg := hg.mono hc.le
  replace r2_0 := r2_0.mono hc.le
  replace hr1 := hr1.mono hc.le
  replace hoe1 := hoe1.mono hc.le
  replace r2_2 := r2_2.mono hc.le
  replace hr2 := hr2.mono hc.le
  replace hoe2 := hoe2.mono hc.le
  replace r2_4 := r2_4.mono hc.le
  replace hr3 := hr3.mono hc.le
  replace hoe3 := hoe3.mono hc.le
  replace hox := hox.mono hc.le
  replace hofx := hofx.mono hc.le
  refine hK40 _ _ ?_
  refine n_q hF hS (q_move rfl) rfl (fun a hF => ?_)
  refine n_q hF hS (q_extract (i := 0) rfl rfl) rfl (fun a hF => ?_)
  refine n_q hF hS (q_extract (i := 1) rfl rfl) rfl (fun a hF => ?_)
  refine n_q hF hS (q_extract (i := 2) rfl rfl) rfl (fun a hF => ?_)
  refine n_l rfl (fun K41 hK41 => l_alloc hF hS zr77 rfl (fun a w b12 hF hS => hK41 _ _ ?_))
  refine n_l rfl (fun K42 hK42 => l_alloc hF hS zr82 rfl (fun a w b13 hF hS => hK42 _ _ ?_))
  refine n_l rfl (fun K43 hK43 => l_store0A ty77 hF hS rfl rfl (i := 1) rfl rfl rfl rfl (fun a w hF hS => hK43 _ _ ?_))
  refine n_l rfl (fun K44 hK44 => l_store0A ty82 hF hS rfl rfl (i := 0) rfl (by simp [dc_length, Hd.c_len, En.c_len, Fk.c_len, List.length_replicate, List.length_cons, List.length_nil, List.length_append]) (by simp [dc_length, Hd.c_len, En.c_len, Fk.c_len, List.length_replicate, List.length_cons, List.length_nil, List.length_append]) (Fk.c_all1 _) (fun a w hF hS => hK44 _ _ ?_))
  refine n_q hF hS (q_assign rfl) rfl (fun a hF => ?_)
  refine hK39 _ _ ?_
  refine c_seq (fun K45 hK45 => ?_)
  refine c_reg ?_
  refine n_q hF hS (q_load0 ty77 rfl (i := 1) rfl rfl rfl) rfl (fun a hF => ?_)
  refine n_q hF hS (q_move rfl) rfl (fun a hF => ?_)
  refine n_q hF hS (q_load0 ty39 rfl (i := 6) rfl (by simp [dc_length, Hd.c_len, En.c_len, Fk.c_len, List.length_replicate, List.length_cons, List.length_nil, List.length_append]) rfl) rfl (fun a hF => ?_)
  refine n_l rfl (fun K46 hK46 => l_call en37 hF rfl rfl (Accept_c y es3 ad3 cp3 k3 (by omega) _ _ hS.fz hg hoy hr3 hoe3) (fun v46 w hR a hF => ?_))
  obtain ⟨z, fz, ez, Hz, rfl, hlez, hoz, hofz, harz, hc⟩ := hR
  replace hS := hS.call hc
  have hdf : Differ 3 (List.map En.dg es2) (List.map En.dg es3) := by rw [hd2, hd3]; exact sane_differ
  obtain ⟨rfl, hzy, hpr⟩ : ez = 321 ∧ z.key = y.key ∧ Proves (pubP 5).1 fz.A fz.B fz.ds := by
    rcases acc_other hv1y hmk3 rfl hie3 harz with ⟨_, q2, q3, q4, _⟩ | ⟨q1, _⟩
    · exact ⟨q2, q3, q4⟩
    · exact absurd hdf q1
  replace hg := hg.mono hc.le
  replace r2_0 := r2_0.mono hc.le
  replace hr1 := hr1.mono hc.le
  replace hoe1 := hoe1.mono hc.le
  replace r2_2 := r2_2.mono hc.le
  replace hr2 := hr2.mono hc.le
  replace hoe2 := hoe2.mono hc.le
  replace r2_4 := r2_4.mono hc.le
  replace hr3 := hr3.mono hc.le
  replace hoe3 := hoe3.mono hc.le
  replace hox := hox.mono hc.le
  replace hofx := hofx.mono hc.le
  replace hoy := hoy.mono hc.le
  replace hofy := hofy.mono hc.le
  refine hK46 _ _ ?_
  refine n_q hF hS (q_move rfl) rfl (fun a hF => ?_)
  refine n_q hF hS (q_extract (i := 0) rfl rfl) rfl (fun a hF => ?_)
  refine n_q hF hS (q_extract (i := 1) rfl rfl) rfl (fun a hF => ?_)
  refine n_q hF hS (q_extract (i := 2) rfl rfl) rfl (fun a hF => ?_)
  refine n_l rfl (fun K47 hK47 => l_alloc hF hS zr77 rfl (fun a w b14 hF hS => hK47 _ _ ?_))
  refine n_l rfl (fun K48 hK48 => l_alloc hF hS zr82 rfl (fun a w b15 hF hS => hK48 _ _ ?_))
  refine n_l rfl (fun K49 hK49 => l_store0A ty77 hF hS rfl rfl (i := 1) rfl rfl rfl rfl (fun a w hF hS => hK49 _ _ ?_))
  refine n_l rfl (fun K50 hK50 => l_store0A ty82 hF hS rfl rfl (i := 0) rfl (by simp [dc_length, Hd.c_len, En.c_len, Fk.c_len, List.length_replicate, List.length_cons, List.length_nil, List.length_append]) (by simp [dc_length, Hd.c_len, En.c_len, Fk.c_len, List.length_replicate, List.length_cons, List.length_nil, List.length_append]) (Fk.c_all1 _) (fun a w hF hS => hK50 _ _ ?_))
  refine n_q hF hS (q_assign rfl) rfl (fun a hF => ?_)
  refine hK45 _ _ ?_
  refine c_seq (fun K51 hK51 => ?_)
  refine c_reg ?_
  refine n_q hF hS (q_load0 ty77 rfl (i := 6) rfl rfl rfl) rfl (fun a hF => ?_)
  refine n_q hF hS (q_build (P := Tryd.prog) (T := 39) zr39 pl39 rfl (by first | rfl | simp [bld, spl, dc_length, Hd.c_len, En.c_len, Fk.c_len, List.length_replicate, List.length_cons, List.length_nil, List.length_append])) rfl (fun a hF => ?_)
  refine rw_ hF (s := 91) (u := .agg zHd.c.toArray) rfl rfl (fun hF => ?_)
  refine n_l rfl (fun K52 hK52 => l_call en37 hF rfl rfl (Accept_c (Vw.mk 0 3 (pubP 5).1 none 0 [] none 0 []) [] none 0 zHd (by decide) _ _ hS.fz hg (VwOK.new _ _ _ _) (RdL.nil _ _ _) (fun _ h => by cases h)) (fun v52 w hR a hF => ?_))
  obtain ⟨o, fo, eo, Ho, rfl, hleo, hoo, hofo, haro, hc⟩ := hR
  replace hS := hS.call hc
  obtain rfl : eo = 320 := by
    rcases haro with ⟨_, _, _, q⟩ | ⟨q, _⟩ | ⟨q, _⟩
    · exact q
    · exact absurd q.2.1.2.1 (by decide)
    · exact absurd q.2.1.2.1 (by decide)
  replace hg := hg.mono hc.le
  replace r2_0 := r2_0.mono hc.le
  replace hr1 := hr1.mono hc.le
  replace hoe1 := hoe1.mono hc.le
  replace r2_2 := r2_2.mono hc.le
  replace hr2 := hr2.mono hc.le
  replace hoe2 := hoe2.mono hc.le
  replace r2_4 := r2_4.mono hc.le
  replace hr3 := hr3.mono hc.le
  replace hoe3 := hoe3.mono hc.le
  replace hox := hox.mono hc.le
  replace hofx := hofx.mono hc.le
  replace hoy := hoy.mono hc.le
  replace hofy := hofy.mono hc.le
  replace hoz := hoz.mono hc.le
  replace hofz := hofz.mono hc.le
  refine hK52 _ _ ?_
  refine n_q hF hS (q_move rfl) rfl (fun a hF => ?_)
  refine n_q hF hS (q_extract (i := 0) rfl rfl) rfl (fun a hF => ?_)
  refine n_q hF hS (q_extract (i := 1) rfl rfl) rfl (fun a hF => ?_)
  refine n_q hF hS (q_extract (i := 2) rfl rfl) rfl (fun a hF => ?_)
  refine n_l rfl (fun K53 hK53 => l_alloc hF hS zr77 rfl (fun a w b16 hF hS => hK53 _ _ ?_))
  refine n_l rfl (fun K54 hK54 => l_alloc hF hS zr82 rfl (fun a w b17 hF hS => hK54 _ _ ?_))
  refine n_l rfl (fun K55 hK55 => l_store0A ty77 hF hS rfl rfl (i := 1) rfl rfl rfl rfl (fun a w hF hS => hK55 _ _ ?_))
  refine n_l rfl (fun K56 hK56 => l_store0A ty82 hF hS rfl rfl (i := 0) rfl (by simp [dc_length, Hd.c_len, En.c_len, Fk.c_len, List.length_replicate, List.length_cons, List.length_nil, List.length_append]) (by simp [dc_length, Hd.c_len, En.c_len, Fk.c_len, List.length_replicate, List.length_cons, List.length_nil, List.length_append]) (Fk.c_all1 _) (fun a w hF hS => hK56 _ _ ?_))
  refine n_q hF hS (q_assign rfl) rfl (fun a hF => ?_)
  refine hK51 _ _ ?_
  refine c_seq (fun K57 hK57 => ?_)
  refine c_reg ?_
  refine n_q hF hS (q_load0 ty77 rfl (i := 5) rfl rfl rfl) rfl (fun a hF => ?_)
  refine n_q hF hS (q_load0 ty77 rfl (i := 5) rfl rfl rfl) rfl (fun a hF => ?_)
  refine n_l rfl (fun K58 hK58 => l_call en34 hF rfl rfl (Compare_v_c y y _ _ hS.fz hg hoy hoy) (fun v58 w hR a hF => ?_))
  obtain ⟨hv, hc⟩ := hR
  rw [hv1y.of.cmp hv1y.of] at hv
  subst hv
  replace hS := hS.call0 hc
  refine hK58 _ _ ?_
  refine n_q hF hS (q_move rfl) rfl (fun a hF => ?_)
  refine n_q hF hS (q_extract (i := 0) rfl rfl) rfl (fun a hF => ?_)
  refine n_q hF hS (q_extract (i := 1) rfl rfl) rfl (fun a hF => ?_)
  refine n_l rfl (fun K59 hK59 => l_alloc hF hS zr82 rfl (fun a w b18 hF hS => hK59 _ _ ?_))
  refine n_l rfl (fun K60 hK60 => l_store0A ty82 hF hS rfl rfl (i := 0) rfl (by simp [dc_length, Hd.c_len, En.c_len, Fk.c_len, List.length_replicate, List.length_cons, List.length_nil, List.length_append]) (by simp [dc_length, Hd.c_len, En.c_len, Fk.c_len, List.length_replicate, List.length_cons, List.length_nil, List.length_append]) (Fk.c_all1 _) (fun a w hF hS => hK60 _ _ ?_))
  refine n_q hF hS (q_assign rfl) rfl (fun a hF => ?_)
  refine hK57 _ _ ?_
  refine c_seq (fun K61 hK61 => ?_)
  refine c_seq (fun K62 hK62 => ?_)
  refine c_reg ?_
  refine n_q hF hS (q_move rfl) rfl (fun a hF => ?_)
  refine n_q hF hS (q_not rfl) rfl (fun a hF => ?_)
  refine n_q hF hS (q_move rfl) rfl (fun a hF => ?_)
  refine rw_ hF (s := 104) (u := .bool false) rfl (by rfl) (fun hF => ?_)
  refine n_yes hF rfl ?_
  refine n_q hF hS (q_move rfl) rfl (fun a hF => ?_)
  refine n_yes hF rfl ?_
  refine n_q hF hS (q_neI rfl rfl) rfl (fun a hF => ?_)
  refine n_q hF hS (q_pick (b := false) rfl rfl) rfl (fun a hF => ?_)
  refine n_q hF hS (q_move rfl) rfl (fun a hF => ?_)
  refine rw_ hF (s := 108) (u := .bool false) rfl (by rfl) (fun hF => ?_)
  refine n_yes hF rfl ?_
  refine n_q hF hS (q_move rfl) rfl (fun a hF => ?_)
  refine n_yes hF rfl ?_
  refine n_q hF hS (q_neI rfl rfl) rfl (fun a hF => ?_)
  refine n_q hF hS (q_pick (b := false) rfl rfl) rfl (fun a hF => ?_)
  refine n_q hF hS (q_move rfl) rfl (fun a hF => ?_)
  refine rw_ hF (s := 112) (u := .bool false) rfl (by rfl) (fun hF => ?_)
  refine n_yes hF rfl ?_
  refine n_q hF hS (q_move rfl) rfl (fun a hF => ?_)
  refine n_yes hF rfl ?_
  refine n_q hF hS (q_neI rfl rfl) rfl (fun a hF => ?_)
  refine n_q hF hS (q_pick (b := false) rfl rfl) rfl (fun a hF => ?_)
  refine n_q hF hS (q_move rfl) rfl (fun a hF => ?_)
  refine rw_ hF (s := 116) (u := .bool false) rfl (by rfl) (fun hF => ?_)
  refine n_yes hF rfl ?_
  refine n_q hF hS (q_move rfl) rfl (fun a hF => ?_)
  refine n_yes hF rfl ?_
  refine n_q hF hS (q_neI rfl rfl) rfl (fun a hF => ?_)
  refine n_q hF hS (q_pick (b := false) rfl rfl) rfl (fun a hF => ?_)
  refine n_q hF hS (q_move rfl) rfl (fun a hF => ?_)
  refine rw_ hF (s := 120) (u := .bool false) rfl (by rfl) (fun hF => ?_)
  refine n_yes hF rfl ?_
  refine n_q hF hS (q_move rfl) rfl (fun a hF => ?_)
  refine n_yes hF rfl ?_
  refine n_q hF hS (q_neI rfl rfl) rfl (fun a hF => ?_)
  refine n_q hF hS (q_pick (b := false) rfl rfl) rfl (fun a hF => ?_)
  refine n_q hF hS (q_move rfl) rfl (fun a hF => ?_)
  refine rw_ hF (s := 124) (u := .bool false) rfl (by rfl) (fun hF => ?_)
  refine n_yes hF rfl ?_
  refine n_q hF hS (q_move rfl) rfl (fun a hF => ?_)
  refine n_yes hF rfl ?_
  refine n_q hF hS (q_neI rfl rfl) rfl (fun a hF => ?_)
  refine n_q hF hS (q_pick (b := false) rfl rfl) rfl (fun a hF => ?_)
  refine n_q hF hS (q_move rfl) rfl (fun a hF => ?_)
  refine rw_ hF (s := 128) (u := .bool false) rfl (by rfl) (fun hF => ?_)
  refine n_yes hF rfl ?_
  refine n_q hF hS (q_move rfl) rfl (fun a hF => ?_)
  refine n_yes hF rfl ?_
  refine n_q hF hS (q_neI rfl rfl) rfl (fun a hF => ?_)
  refine n_q hF hS (q_pick (b := false) rfl rfl) rfl (fun a hF => ?_)
  refine n_q hF hS (q_move rfl) rfl (fun a hF => ?_)
  refine rw_ hF (s := 132) (u := .bool false) rfl (by rfl) (fun hF => ?_)
  refine n_yes hF rfl ?_
  refine n_q hF hS (q_move rfl) rfl (fun a hF => ?_)
  refine n_yes hF rfl ?_
  refine n_q hF hS (q_neI rfl rfl) rfl (fun a hF => ?_)
  refine n_q hF hS (q_pick (b := false) rfl rfl) rfl (fun a hF => ?_)
  refine n_q hF hS (q_move rfl) rfl (fun a hF => ?_)
  refine rw_ hF (s := 136) (u := .bool false) rfl (by rfl) (fun hF => ?_)
  refine n_yes hF rfl ?_
  refine n_q hF hS (q_move rfl) rfl (fun a hF => ?_)
  refine n_q hF hS (q_pick (b := false) rfl rfl) rfl (fun a hF => ?_)
  refine n_q hF hS (q_move rfl) rfl (fun a hF => ?_)
  refine rw_ hF (s := 139) (u := .bool false) rfl (by rfl) (fun hF => ?_)
  refine n_yes hF rfl ?_
  refine n_q hF hS (q_fieldAddr fl77_4 (by decide) rfl) rfl (fun a hF => ?_)
  refine n_yes hF rfl ?_
  refine n_q hF hS (q_load ty75 rfl (i := 8) rfl rfl rfl (show ldv false 1 x.c 4 = some (.slice x.ha x.hs.length x.hp) from rfl)) rfl (fun a hF => ?_)
  refine n_yes hF rfl ?_
  refine n_q hF hS (q_len Tryd.underlying75 rfl rfl) rfl (fun a hF => ?_)
  refine n_yes hF rfl ?_
  refine n_q hF hS (q_neI rfl rfl) rfl (fun a hF => ?_)
  refine n_q hF hS (q_pick (b := false) rfl rfl) rfl (fun a hF => ?_)
  refine n_q hF hS (q_move rfl) rfl (fun a hF => ?_)
  refine rw_ hF (s := 145) (u := .bool false) rfl (by rw [decide_eq_true (show (x.hs.length : Int) = 1 from by rw [hv1x.hs]; rfl)]; rfl) (fun hF => ?_)
  refine n_yes hF rfl ?_
  refine n_q hF hS (q_fieldAddr fl77_3 (by decide) rfl) rfl (fun a hF => ?_)
  refine n_yes hF rfl ?_
  refine n_q hF hS (q_load ty45 rfl (i := 6) rfl rfl rfl (show ldv false 1 y.c 3 = some (.slice y.da y.ds.length y.dp) from rfl)) rfl (fun a hF => ?_)
  refine n_yes hF rfl ?_
  refine n_q hF hS (q_len Tryd.underlying45 rfl rfl) rfl (fun a hF => ?_)
  refine n_yes hF rfl ?_
  refine n_q hF hS (q_neI rfl rfl) rfl (fun a hF => ?_)
  refine n_q hF hS (q_pick (b := false) rfl rfl) rfl (fun a hF => ?_)
  refine n_q hF hS (q_move rfl) rfl (fun a hF => ?_)
  refine rw_ hF (s := 151) (u := .bool false) rfl (by rw [decide_eq_true (show (y.ds.length : Int) = 2 from by rw [hv1y.ds, List.length_map, hl2]; rfl)]; rfl) (fun hF => ?_)
  refine n_yes hF rfl ?_
  refine n_q hF hS (q_load0 ty77 rfl (i := 4) rfl rfl rfl) rfl (fun a hF => ?_)
  refine n_yes hF rfl ?_
  refine n_q hF hS (q_load0 ty77 rfl (i := 6) rfl rfl rfl) rfl (fun a hF => ?_)
  refine n_yes hF rfl ?_
  refine n_l rfl (fun K63 hK63 => l_call en42 hF rfl rfl (SameV_c z y _ _ hS.fz hoz hoy) (fun v63 w hR a hF => ?_))
  obtain ⟨rfl, hc⟩ := hR
  replace hS := hS.call0 hc
  refine hK63 _ _ ?_
  refine n_yes hF rfl ?_
  refine n_q hF hS (q_not rfl) rfl (fun a hF => ?_)
  refine n_q hF hS (q_pick (b := false) rfl rfl) rfl (fun a hF => ?_)
  refine hK62 _ _ ?_
  refine rw_ hF (s := 156) (u := .bool false) rfl (by rw [tb_true hzy]; rfl) (fun hF => ?_)
  refine c_false hF rfl ?_
  refine wp_skip ?_
  refine hK61 _ _ ?_
  refine c_seq (fun K64 hK64 => ?_)
  refine r_start (fun L => L) [] mo hS (fun w hS => ?_)
  refine r_one (i := 0) (by kernel_rfl) ?_
  have hsub := hS.sub
  refine r_li rfl rfl (fun K65 hK65 => l_call en38 hF rfl rfl (VNew_c 0 0 0 _ _ hS.fz) (fun v65 w hR a hF => ?_))
  obtain ⟨rfl, hc⟩ := hR
  replace hS := hS.call0 hc
  refine hK65 _ _ _ hS (fun _ h => h) ?_
  refine r_one (i := 1) (by kernel_rfl) ?_
  have hsub := hS.sub
  refine r_li rfl rfl (fun K66 hK66 => l_call en33 hF rfl rfl (VCheck_c ⟨0, 0, 0, none, 0, [], none, 0, []⟩ _ _ hS.fz hg (VwOK.new _ _ _ _)) (fun v66 w hR a hF => ?_))
  obtain ⟨hv, hc⟩ := hR
  rw [tb_true (valid_new (by decide) (by decide))] at hv
  subst hv
  replace hS := hS.call0 hc
  refine hK66 _ _ _ hS (fun _ h => h) ?_
  refine r_q (i := 2) rfl rfl hF hS (q_eqI rfl rfl) rfl (fun a hF => ?_)
  refine r_q (i := 3) rfl rfl hF hS (q_move rfl) rfl (fun a hF => ?_)
  refine spT hF (s := 160) rfl (by rfl) (fun hF => ?_)
  refine r_one (i := 4) (by kernel_rfl) ?_
  have hsub := hS.sub
  refine r_lig rfl rfl hF rfl (fun K67 hK67 => l_call en38 hF rfl rfl (VNew_c 4 0 0 _ _ hS.fz) (fun v67 w hR a hF => ?_))
  obtain ⟨rfl, hc⟩ := hR
  replace hS := hS.call0 hc
  refine hK67 _ _ _ hS (fun _ h => h) ?_
  refine r_one (i := 5) (by kernel_rfl) ?_
  have hsub := hS.sub
  refine r_lig rfl rfl hF rfl (fun K68 hK68 => l_call en33 hF rfl rfl (VCheck_c ⟨4, 0, 0, none, 0, [], none, 0, []⟩ _ _ hS.fz hg (VwOK.new _ _ _ _)) (fun v68 w hR a hF => ?_))
  obtain ⟨hv, hc⟩ := hR
  rw [tb_false (fun q => absurd q.1.2 (by decide))] at hv
  subst hv
  replace hS := hS.call0 hc
  refine hK68 _ _ _ hS (fun _ h => h) ?_
  refine r_qg (i := 6) rfl rfl hF hS rfl (q_eqI rfl rfl) rfl (fun a hF => ?_)
  refine r_q (i := 7) rfl rfl hF hS (q_pick (b := true) rfl rfl) rfl (fun a hF => ?_)
  refine r_q (i := 8) rfl rfl hF hS (q_move rfl) rfl (fun a hF => ?_)
  refine spT hF (s := 165) rfl (by rfl) (fun hF => ?_)
  refine r_qg (i := 9) rfl rfl hF hS rfl (q_move rfl) rfl (fun a hF => ?_)
  refine r_qg (i := 10) rfl rfl hF hS rfl (q_load0 ty82 rfl (i := 3) rfl (by simp [dc_length, Hd.c_len, En.c_len, Fk.c_len, List.length_replicate, List.length_cons, List.length_nil, List.length_append]) rfl) rfl (fun a hF => ?_)
  refine r_one (i := 11) (by kernel_rfl) ?_
  have hsub := hS.sub
  refine r_lig rfl rfl hF rfl (fun K69 hK69 => l_call en39 hF rfl rfl (Prove_c (pubP 5).1 fz _ _ hS.fz hg hofz) (fun v69 w hR a hF => ?_))
  obtain ⟨hv, hc⟩ := hR
  rw [tb_true hpr] at hv
  subst hv
  replace hS := hS.call0 hc
  refine hK69 _ _ _ hS (fun _ h => h) ?_
  refine r_qg (i := 12) rfl rfl hF hS rfl (q_eqI rfl rfl) rfl (fun a hF => ?_)
  refine r_q (i := 13) rfl rfl hF hS (q_pick (b := true) rfl rfl) rfl (fun a hF => ?_)
  refine r_q (i := 14) rfl rfl hF hS (q_move rfl) rfl (fun a hF => ?_)
  refine spT hF (s := 171) rfl (by rfl) (fun hF => ?_)
  refine r_qg (i := 15) rfl rfl hF hS rfl (q_cast (u := .agg zFk.c.toArray) (q_build (P := Tryd.prog) (T := 82) (cs := zFk.c) zr82 pl82 rfl rfl) rfl) rfl (fun a hF => ?_)
  refine r_one (i := 16) (by kernel_rfl) ?_
  have hsub := hS.sub
  refine r_lig rfl rfl hF rfl (fun K70 hK70 => l_call en39 hF rfl rfl (Prove_c 0 zFk _ _ hS.fz hg (FkOK.zero _)) (fun v70 w hR a hF => ?_))
  obtain ⟨hv, hc⟩ := hR
  rw [tb_false (fun q => by have h9 := q.1; rw [ver_bad0] at h9; cases h9)] at hv
  subst hv
  replace hS := hS.call0 hc
  refine hK70 _ _ _ hS (fun _ h => h) ?_
  refine r_qg (i := 17) rfl rfl hF hS rfl (q_eqI rfl rfl) rfl (fun a hF => ?_)
  refine r_q (i := 18) rfl rfl hF hS (q_pick (b := true) rfl rfl) rfl (fun a hF => ?_)
  refine r_q (i := 19) rfl rfl hF hS (q_move rfl) rfl (fun a hF => ?_)
  refine spT hF (s := 176) rfl (by rfl) (fun hF => ?_)
  refine r_qg (i := 20) rfl rfl hF hS rfl (q_move rfl) rfl (fun a hF => ?_)
  refine r_qg (i := 21) rfl rfl hF hS rfl (q_load0 ty39 rfl (i := 10) rfl (by simp [dc_length, Hd.c_len, En.c_len, Fk.c_len, List.length_replicate, List.length_cons, List.length_nil, List.length_append]) rfl) rfl (fun a hF => ?_)
  refine r_qg (i := 22) rfl rfl hF hS rfl (q_load0 ty39 rfl (i := 12) rfl (by simp [dc_length, Hd.c_len, En.c_len, Fk.c_len, List.length_replicate, List.length_cons, List.length_nil, List.length_append]) rfl) rfl (fun a hF => ?_)
  refine r_qg (i := 23) rfl rfl hF hS rfl (q_move rfl) rfl (fun a hF => ?_)
  refine r_one (i := 24) (by kernel_rfl) ?_
  have hsub := hS.sub
  refine r_lig rfl rfl hF rfl (fun K71 hK71 => l_call en36 hF rfl rfl (digests32_c es2 ad2 cp2 (by omega) _ _ hS.fz hr2) (fun v71 w hR a hF => ?_))
  obtain ⟨ad9, cp9, H9, rfl, hle9, hr9, hcp9, hc⟩ := hR
  replace hS := hS.call hc
  replace hg := hg.mono hc.le
  replace r2_0 := r2_0.mono hc.le
  replace hr1 := hr1.mono hc.le
  replace hoe1 := hoe1.mono hc.le
  replace r2_2 := r2_2.mono hc.le
  replace hr2 := hr2.mono hc.le
  replace hoe2 := hoe2.mono hc.le
  replace r2_4 := r2_4.mono hc.le
  replace hr3 := hr3.mono hc.le
  replace hoe3 := hoe3.mono hc.le
  replace hox := hox.mono hc.le
  replace hofx := hofx.mono hc.le
  replace hoy := hoy.mono hc.le
  replace hofy := hofy.mono hc.le
  replace hoz := hoz.mono hc.le
  replace hofz := hofz.mono hc.le
  replace hoo := hoo.mono hc.le
  replace hofo := hofo.mono hc.le
  refine hK71 _ _ _ hS (fun _ h => h.forget hsub hc.le) ?_
  refine r_qg (i := 25) rfl rfl hF hS rfl (q_build (P := Tryd.prog) (T := 82) (cs := Fk.c ⟨k1, k2, ad9, cp9, List.map En.dg es2⟩) zr82 pl82 rfl (bld_fk _ _ _ rfl rfl)) rfl (fun a hF => ?_)
  refine r_one (i := 26) (by kernel_rfl) ?_
  have hsub := hS.sub
  refine r_lig rfl rfl hF rfl (fun K72 hK72 => l_call en39 hF rfl rfl (Prove_c (pubP 5).1 ⟨k1, k2, ad9, cp9, List.map En.dg es2⟩ _ _ hS.fz hg ⟨hr9, by rw [List.length_map]; omega, hcp9⟩) (fun v72 w hR a hF => ?_))
  obtain ⟨hv, hc⟩ := hR
  rw [tb_false (by rw [hd1] at hmk1; rw [hd2] at hmk2 ⊢; exact sane_pre hmk1 hmk2)] at hv
  subst hv
  replace hS := hS.call0 hc
  refine hK72 _ _ _ hS (fun _ h => h) ?_
  refine r_qg (i := 27) rfl rfl hF hS rfl (q_eqI rfl rfl) rfl (fun a hF => ?_)
  refine r_q (i := 28) rfl rfl hF hS (q_pick (b := true) rfl rfl) rfl (fun a hF => ?_)
  refine r_q (i := 29) rfl rfl hF hS (q_assign rfl) rfl (fun a hF => ?_)
  refine r_done (by kernel_rfl) ?_
  refine hK64 _ _ ?_
  refine c_ret ?_
  repeat (first | refine ret_then ?_ | refine ret_blk ?_)
  refine c_ret' (P := Tryd.prog) (fn := Tryd.f28) rfl hF hS (.tmp rfl .nil) ⟨_, rfl, ?_⟩
  exact ⟨rfl, hS.same⟩
end Go.Proofs.YtneokajhmonpaaaDoor

namespace Go.Proofs.YtneokajhmonpaaaDoor
open Go Go.RowKit Go.W
set_option maxRecDepth 10000
open Fx

theorem short_c (data : List ByteArray) (al : Option Addr) (cl : Nat) (hn : data.length ≤ 2000000) (ht : totL data ≤ 2000000) (w : World) (H : Froz) (hz : Fz H w) (hr : RdL H al 1 (srE data)) :
    CallsR Tryd.prog 30 [.slice al data.length cl] w fun r w' => r = .bool (decide (data.length ≤ 8 ∧ totL data ≤ 400)) ∧ St ⟨w, H, []⟩ H [] w' := by
  refine calls_start Tryd.func30 rfl Tryd.ntmps30 rfl (fun a hF => ?_)
  have hS := St.start w H hz
  refine c_seq (fun K1 hK1 => ?_)
  refine c_reg ?_
  refine n_q hF hS (q_assign rfl) rfl (fun a hF => ?_)
  refine hK1 _ _ ?_
  refine c_seq (fun K2 hK2 => ?_)
  refine c_reg ?_
  refine n_q hF hS (q_assign rfl) rfl (fun a hF => ?_)
  refine hK2 _ _ ?_
  refine c_seq (fun K3 hK3 => ?_)
  refine c_seq (fun K4 hK4 => ?_)
  refine c_reg ?_
  refine n_q hF hS (q_assign rfl) rfl (fun a hF => ?_)
  refine hK4 _ _ ?_
  refine c_block ?_
  refine c_loopL hF [3, 4, 5, 6, 7, 8, 9, 10, 11, 12, 13, 14, 15, 16, 17]
    (fun k : Nat => [(3, .int .i64 (totK data k : Int)), (4, .int .i64 (k : Int))])
    (fun _ => [])
    (fun k _ => k ≤ data.length)
    (fun k => data.length - k) (0) ⟨rfl, rfl, trivial⟩ (hS) (Nat.zero_le _) ?_
  clear hF hS
  intro k a w H hle hF hS hJ
  replace hr := hr.mono hle
  have hl0 := Le.refl H
  try dsimp only at hF hS hJ
  refine c_seq (fun K5 hK5 => ?_)
  refine c_seq (fun K6 hK6 => ?_)
  refine c_reg ?_
  refine n_q hF hS (q_move rfl) rfl (fun a hF => ?_)
  refine n_q hF hS (q_move rfl) rfl (fun a hF => ?_)
  refine n_q hF hS (q_len Tryd.underlying70 rfl rfl) rfl (fun a hF => ?_)
  refine n_q hF hS (q_lss rfl rfl) rfl (fun a hF => ?_)
  refine hK6 _ _ ?_
  refine spd hF (s := 8) rfl (fun hc8 hF => ?_) (fun hc8 hF => ?_)
  refine c_true hF rfl ?_
  refine wp_skip ?_
  refine hK5 _ _ ?_
  refine c_seq (fun K7 hK7 => ?_)
  refine c_block ?_
  refine c_reg ?_
  have hlt : k < data.length := by omega
  obtain ⟨s, hsd⟩ : ∃ q, q = data[k] := ⟨_, rfl⟩
  have hs? : data[k]? = some s := by rw [hsd]; simp [hlt]
  have hel : (srE data)[k]? = some [.string s] := by simp [srE, hs?]
  have hst := tot_one hs?
  have hs2 : s.size = s.data.toList.length := by simp
  have htk := totK_le k (Nat.le_of_lt hlt)
  refine n_q hF hS (q_move rfl) rfl (fun a hF => ?_)
  refine n_q hF hS (q_move rfl) rfl (fun a hF => ?_)
  refine n_q hF hS (q_move rfl) rfl (fun a hF => ?_)
  refine n_q hF hS (q_indexAddrS Tryd.underlying70 ty9 rfl rfl (by omega) (hr.some (by simp only [srE, List.length_map]; omega))) rfl (fun a hF => ?_)
  refine n_q hF hS (q_loadL0 (v := .string s) ty9 rfl hr hel (by decide) rfl rfl) rfl (fun a hF => ?_)
  refine n_q hF hS (q_lenS Tryd.underlying9 rfl rfl) rfl (fun a hF => ?_)
  refine n_q hF hS (q_addI rfl rfl (by omega)) rfl (fun a hF => ?_)
  refine n_q hF hS (q_assign rfl) rfl (fun a hF => ?_)
  refine hK7 _ _ ?_
  refine c_reg ?_
  refine n_q hF hS (q_move rfl) rfl (fun a hF => ?_)
  refine n_q hF hS (q_addI rfl rfl (by omega)) rfl (fun a hF => ?_)
  refine n_q hF hS (q_assign rfl) rfl (fun a hF => ?_)
  exact ⟨k + 1, _, (by show data.length - (k + 1) < data.length - k; omega), hl0, hF.back ⟨by rw [totK_succ hs?]; rfl, rfl, trivial⟩ rfl (by repeat first | exact Ext.refl _ _ | refine Ext.rem' rfl ?_ | refine Ext.push rfl ?_), hS.lose (.refl _), (by show k + 1 ≤ data.length; omega)⟩
  refine c_false hF rfl ?_
  refine c_exit ?_
  refine hK3 _ _ ?_
  refine c_seq (fun K8 hK8 => ?_)
  refine c_reg ?_
  refine n_q hF hS (q_move rfl) rfl (fun a hF => ?_)
  refine n_q hF hS (q_len Tryd.underlying70 rfl rfl) rfl (fun a hF => ?_)
  refine n_q hF hS (q_leq rfl rfl) rfl (fun a hF => ?_)
  refine n_q hF hS (q_move rfl) rfl (fun a hF => ?_)
  refine spd hF (s := 21) rfl (fun hc21 hF => ?_) (fun hc21 hF => ?_)
  refine n_yes hF rfl ?_
  refine n_q hF hS (q_move rfl) rfl (fun a hF => ?_)
  refine n_yes hF rfl ?_
  refine n_q hF hS (q_leq rfl rfl) rfl (fun a hF => ?_)
  refine n_q hF hS (q_pick (b := true) rfl rfl) rfl (fun a hF => ?_)
  refine n_q hF hS (q_assign rfl) rfl (fun a hF => ?_)
  refine hK8 _ _ ?_
  refine c_ret ?_
  repeat (first | refine ret_then ?_ | refine ret_blk ?_)
  refine c_ret' (P := Tryd.prog) (fn := Tryd.f30) rfl hF hS (.tmp rfl .nil) ⟨_, rfl, ?_⟩
  have hke : totK data k = totL data := by rw [show k = data.length by omega]; rfl
  exact ⟨congrArg Value.bool (decide_eq_decide.2 ⟨fun q => by omega, fun q => by omega⟩), hS.same⟩
  refine n_no hF (b := false) rfl rfl rfl (fun a hF => ?_)
  refine n_no hF (b := false) rfl rfl rfl (fun a hF => ?_)
  refine n_q hF hS (q_pick (b := false) rfl rfl) rfl (fun a hF => ?_)
  refine n_q hF hS (q_assign rfl) rfl (fun a hF => ?_)
  refine hK8 _ _ ?_
  refine c_ret ?_
  repeat (first | refine ret_then ?_ | refine ret_blk ?_)
  refine c_ret' (P := Tryd.prog) (fn := Tryd.f30) rfl hF hS (.tmp rfl .nil) ⟨_, rfl, ?_⟩
  exact ⟨by rw [decide_eq_false (fun q => by omega)]; rfl, hS.same⟩
end Go.Proofs.YtneokajhmonpaaaDoor

namespace Go.Proofs.YtneokajhmonpaaaDoor
open Go Go.RowKit Go.W
set_option maxRecDepth 10000
open Fx

set_option maxHeartbeats 6400000 in
theorem ViewsCaught_c (id priv f : Int) (xs ys : List ByteArray) (al al2 : Option Addr) (cl cl2 : Nat) (hn : xs.length ≤ 2000000) (ht : totL xs ≤ 2000000) (hn2 : ys.length ≤ 2000000) (ht2 : totL ys ≤ 2000000) (w : World) (H : Froz) (hz : Fz H w) (hg : Gl 0 1 H) (hr : RdL H al 1 (srE xs)) (hr2 : RdL H al2 1 (srE ys)) :
    CallsR Tryd.prog 8 [.int .i64 id, .int .i64 priv, .int .i64 f, .slice al xs.length cl, .slice al2 ys.length cl2] w fun v w' => v = .bool true ∧ St ⟨w, H, []⟩ H [] w' := by
  refine calls_start Tryd.func8 rfl Tryd.ntmps8 rfl (fun a hF => ?_)
  have hS := St.start w H hz
  refine c_seq (fun K1 hK1 => ?_)
  refine c_reg ?_
  refine n_q hF hS (q_assign rfl) rfl (fun a hF => ?_)
  refine hK1 _ _ ?_
  refine c_seq (fun K2 hK2 => ?_)
  refine c_seq (fun K3 hK3 => ?_)
  refine c_reg ?_
  refine n_l rfl (fun K4 hK4 => l_call en28 hF rfl rfl (sane32_c _ _ hS.fz hg) (fun v4 w hR a hF => ?_))
  obtain ⟨rfl, hc⟩ := hR
  replace hS := hS.call0 hc
  refine hK4 _ _ ?_
  refine n_q hF hS (q_not rfl) rfl (fun a hF => ?_)
  refine hK3 _ _ ?_
  refine rw_ hF (s := 36) (u := .bool false) rfl (by rfl) (fun hF => ?_)
  refine c_false hF rfl ?_
  refine wp_skip ?_
  refine hK2 _ _ ?_
  refine c_seq (fun K5 hK5 => ?_)
  refine c_reg ?_
  refine n_q hF hS (q_move rfl) rfl (fun a hF => ?_)
  refine n_q hF hS (q_move rfl) rfl (fun a hF => ?_)
  refine n_q hF hS (q_move rfl) rfl (fun a hF => ?_)
  refine n_l rfl (fun K6 hK6 => l_call en29 hF rfl rfl (open32_c id priv f _ _ hS.fz) (fun v6 w hR a hF => ?_))
  obtain ⟨s, ok, rfl, hok, hsd, hc⟩ := hR
  replace hS := hS.call0 hc
  refine hK6 _ _ ?_
  refine n_q hF hS (q_move rfl) rfl (fun a hF => ?_)
  refine n_q hF hS (q_extract (i := 0) rfl rfl) rfl (fun a hF => ?_)
  refine n_q hF hS (q_extract (i := 1) rfl rfl) rfl (fun a hF => ?_)
  refine n_q hF hS (q_extract (i := 2) rfl rfl) rfl (fun a hF => ?_)
  refine n_l rfl (fun K7 hK7 => l_alloc hF hS zr26 rfl (fun a w b1 hF hS => hK7 _ _ ?_))
  refine n_l rfl (fun K8 hK8 => l_store0A ty26 hF hS rfl rfl (i := 0) rfl rfl rfl rfl (fun a w hF hS => hK8 _ _ ?_))
  refine n_q hF hS (q_assign rfl) rfl (fun a hF => ?_)
  refine n_q hF hS (q_assign rfl) rfl (fun a hF => ?_)
  refine hK5 _ _ ?_
  refine c_seq (fun K9 hK9 => ?_)
  refine c_seq (fun K10 hK10 => ?_)
  refine c_reg ?_
  refine n_q hF hS (q_move rfl) rfl (fun a hF => ?_)
  refine n_q hF hS (q_not rfl) rfl (fun a hF => ?_)
  refine n_q hF hS (q_move rfl) rfl (fun a hF => ?_)
  refine sp hF (s := 47) rfl (fun hc47 hF => ?_) (fun hc47 hF => ?_)
  refine n_no hF (b := true) rfl rfl rfl (fun a hF => ?_)
  refine n_no hF (b := true) rfl rfl rfl (fun a hF => ?_)
  refine n_no hF (b := true) rfl rfl rfl (fun a hF => ?_)
  refine n_q hF hS (q_pick (b := true) rfl rfl) rfl (fun a hF => ?_)
  refine n_q hF hS (q_move rfl) rfl (fun a hF => ?_)
  refine n_no hF (b := true) rfl rfl rfl (fun a hF => ?_)
  refine n_no hF (b := true) rfl rfl rfl (fun a hF => ?_)
  refine n_no hF (b := true) rfl rfl rfl (fun a hF => ?_)
  refine n_q hF hS (q_pick (b := true) rfl rfl) rfl (fun a hF => ?_)
  refine hK10 _ _ ?_
  refine c_true hF rfl ?_
  refine c_seq (fun K11 hK11 => ?_)
  refine c_reg ?_
  refine n_q hF hS (q_assign rfl) rfl (fun a hF => ?_)
  refine hK11 _ _ ?_
  refine c_ret ?_
  repeat (first | refine ret_then ?_ | refine ret_blk ?_)
  refine c_ret' (P := Tryd.prog) (fn := Tryd.f8) rfl hF hS (.tmp rfl .nil) ⟨_, rfl, ?_⟩
  exact ⟨rfl, hS.same⟩
  refine n_yes hF rfl ?_
  refine n_q hF hS (q_move rfl) rfl (fun a hF => ?_)
  refine n_yes hF rfl ?_
  refine n_l rfl (fun K12 hK12 => l_call en30 hF rfl rfl (short_c xs al cl hn ht _ _ hS.fz hr) (fun v12 w hR a hF => ?_))
  obtain ⟨rfl, hc⟩ := hR
  replace hS := hS.call0 hc
  refine hK12 _ _ ?_
  refine n_yes hF rfl ?_
  refine n_q hF hS (q_not rfl) rfl (fun a hF => ?_)
  refine n_q hF hS (q_pick (b := false) rfl rfl) rfl (fun a hF => ?_)
  refine n_q hF hS (q_move rfl) rfl (fun a hF => ?_)
  refine spn hF (s := 52) rfl (fun hc52 hF => ?_) (fun hc52 hF => ?_)
  refine n_no hF (b := true) rfl rfl rfl (fun a hF => ?_)
  refine n_no hF (b := true) rfl rfl rfl (fun a hF => ?_)
  refine n_no hF (b := true) rfl rfl rfl (fun a hF => ?_)
  refine n_q hF hS (q_pick (b := true) rfl rfl) rfl (fun a hF => ?_)
  refine hK10 _ _ ?_
  refine c_true hF rfl ?_
  refine c_seq (fun K13 hK13 => ?_)
  refine c_reg ?_
  refine n_q hF hS (q_assign rfl) rfl (fun a hF => ?_)
  refine hK13 _ _ ?_
  refine c_ret ?_
  repeat (first | refine ret_then ?_ | refine ret_blk ?_)
  refine c_ret' (P := Tryd.prog) (fn := Tryd.f8) rfl hF hS (.tmp rfl .nil) ⟨_, rfl, ?_⟩
  exact ⟨rfl, hS.same⟩
  refine n_yes hF rfl ?_
  refine n_q hF hS (q_move rfl) rfl (fun a hF => ?_)
  refine n_yes hF rfl ?_
  refine n_l rfl (fun K14 hK14 => l_call en30 hF rfl rfl (short_c ys al2 cl2 hn2 ht2 _ _ hS.fz hr2) (fun v14 w hR a hF => ?_))
  obtain ⟨rfl, hc⟩ := hR
  replace hS := hS.call0 hc
  refine hK14 _ _ ?_
  refine n_yes hF rfl ?_
  refine n_q hF hS (q_not rfl) rfl (fun a hF => ?_)
  refine n_q hF hS (q_pick (b := false) rfl rfl) rfl (fun a hF => ?_)
  refine hK10 _ _ ?_
  refine spn hF (s := 56) rfl (fun hc56 hF => ?_) (fun hc56 hF => ?_)
  refine c_true hF rfl ?_
  refine c_seq (fun K15 hK15 => ?_)
  refine c_reg ?_
  refine n_q hF hS (q_assign rfl) rfl (fun a hF => ?_)
  refine hK15 _ _ ?_
  refine c_ret ?_
  repeat (first | refine ret_then ?_ | refine ret_blk ?_)
  refine c_ret' (P := Tryd.prog) (fn := Tryd.f8) rfl hF hS (.tmp rfl .nil) ⟨_, rfl, ?_⟩
  exact ⟨rfl, hS.same⟩
  refine c_false hF rfl ?_
  refine wp_skip ?_
  refine hK9 _ _ ?_
  refine c_seq (fun K16 hK16 => ?_)
  refine c_reg ?_
  have hok1 : ok = true := by simpa using hc47
  have hopen : OpenOK id priv f := hok.1 hok1
  obtain rfl : s = newS id priv := hsd hok1
  refine n_q hF hS (q_move rfl) rfl (fun a hF => ?_)
  refine n_l rfl (fun K17 hK17 => l_call en31 hF rfl rfl (entries32_c xs al cl hc52.1 hc52.2 _ _ hS.fz hg hr) (fun v17 w hR a hF => ?_))
  obtain ⟨es3, ad3, cp3, H3, rfl, hle3, hr3, hoe3, hcp3, hk3, hl3, hc⟩ := hR
  replace hS := hS.call hc
  have h83 : es3.length ≤ 8 := by rw [hl3]; exact hc52.1
  have hie3 := fun j e => com_at (j := j) (e := e) hk3
  replace hg := hg.mono hc.le
  replace hr := hr.mono hc.le
  replace hr2 := hr2.mono hc.le
  refine hK17 _ _ ?_
  refine n_q hF hS (q_move rfl) rfl (fun a hF => ?_)
  refine n_l rfl (fun K18 hK18 => l_call en31 hF rfl rfl (entries32_c ys al2 cl2 hc56.1 hc56.2 _ _ hS.fz hg hr2) (fun v18 w hR a hF => ?_))
  obtain ⟨es4, ad4, cp4, H4, rfl, hle4, hr4, hoe4, hcp4, hk4, hl4, hc⟩ := hR
  replace hS := hS.call hc
  have h84 : es4.length ≤ 8 := by rw [hl4]; exact hc56.1
  have hie4 := fun j e => com_at (j := j) (e := e) hk4
  replace hg := hg.mono hc.le
  replace hr := hr.mono hc.le
  replace hr2 := hr2.mono hc.le
  replace hr3 := hr3.mono hc.le
  replace hoe3 := hoe3.mono hc.le
  refine hK18 _ _ ?_
  refine n_q hF hS (q_assign rfl) rfl (fun a hF => ?_)
  refine n_q hF hS (q_assign rfl) rfl (fun a hF => ?_)
  refine hK16 _ _ ?_
  refine c_seq (fun K19 hK19 => ?_)
  refine c_reg ?_
  refine n_q hF hS (q_move rfl) rfl (fun a hF => ?_)
  refine n_q hF hS (q_len Tryd.underlying31 rfl rfl) rfl (fun a hF => ?_)
  refine n_q hF hS (q_move rfl) rfl (fun a hF => ?_)
  refine n_q hF hS (q_len Tryd.underlying31 rfl rfl) rfl (fun a hF => ?_)
  refine n_q hF hS (q_min2 rfl rfl) rfl (fun a hF => ?_)
  refine n_q hF hS (q_assign rfl) rfl (fun a hF => ?_)
  refine hK19 _ _ ?_
  refine c_seq (fun K20 hK20 => ?_)
  obtain ⟨n, hnn⟩ : ∃ q, q = min es3.length es4.length := ⟨_, rfl⟩
  refine rw_ hF (s := 16) (u := .int .i64 (n : Int)) rfl (by rw [hnn]; exact congrArg (Value.int .i64) (by omega)) (fun hF => ?_)
  refine r_start (fun L => L) [] mo hS (fun w hS => ?_)
  refine r_q (i := 0) rfl rfl hF hS (q_move rfl) rfl (fun a hF => ?_)
  refine r_q (i := 1) rfl rfl hF hS (q_move rfl) rfl (fun a hF => ?_)
  refine r_q (i := 2) rfl rfl hF hS (q_move rfl) rfl (fun a hF => ?_)
  refine r_q (i := 3) rfl rfl hF hS (q_cast (u := .slice ad3 (es3.take n).length cp3) (q_sliceP (h := n) Tryd.underlying31 ty48 rfl rfl (by omega)) (by rw [List.length_take, Nat.min_eq_left (by omega)])) rfl (fun a hF => ?_)
  refine r_q (i := 6) rfl rfl hF hS (q_move rfl) rfl (fun a hF => ?_)
  refine r_q (i := 7) rfl rfl hF hS (q_move rfl) rfl (fun a hF => ?_)
  refine r_q (i := 8) rfl rfl hF hS (q_move rfl) rfl (fun a hF => ?_)
  refine r_q (i := 9) rfl rfl hF hS (q_cast (u := .slice ad4 (es4.take n).length cp4) (q_sliceP (h := n) Tryd.underlying31 ty48 rfl rfl (by omega)) (by rw [List.length_take, Nat.min_eq_left (by omega)])) rfl (fun a hF => ?_)
  refine r_one (i := 4) (by kernel_rfl) ?_
  have hsub := hS.sub
  refine r_li rfl rfl (fun K21 hK21 => l_call en36 hF rfl rfl (digests32_c (es3.take n) ad3 cp3 (by rw [List.length_take]; omega) _ _ hS.fz (rd_take hr3 _)) (fun v21 w hR a hF => ?_))
  obtain ⟨ad7, cp7, H7, rfl, hle7, hr7, hcp7, hc⟩ := hR
  replace hS := hS.call hc
  replace hg := hg.mono hc.le
  replace hr := hr.mono hc.le
  replace hr2 := hr2.mono hc.le
  replace hr3 := hr3.mono hc.le
  replace hoe3 := hoe3.mono hc.le
  replace hr4 := hr4.mono hc.le
  replace hoe4 := hoe4.mono hc.le
  refine hK21 _ _ _ hS (fun _ h => h.forget hsub hc.le) ?_
  refine r_one (i := 5) (by kernel_rfl) ?_
  have hsub := hS.sub
  refine r_li rfl rfl (fun K22 hK22 => l_call en18 hF rfl rfl (SChain_c f (List.map En.dg (es3.take n)) ad7 cp7 (by rw [List.length_map, List.length_take]; omega) _ _ hS.fz hg hr7) (fun v22 w hR a hF => ?_))
  obtain ⟨rfl, hc⟩ := hR
  replace hS := hS.call0 hc
  refine hK22 _ _ _ hS (fun _ h => h) ?_
  refine r_one (i := 10) (by kernel_rfl) ?_
  have hsub := hS.sub
  refine r_li rfl rfl (fun K23 hK23 => l_call en36 hF rfl rfl (digests32_c (es4.take n) ad4 cp4 (by rw [List.length_take]; omega) _ _ hS.fz (rd_take hr4 _)) (fun v23 w hR a hF => ?_))
  obtain ⟨ad8, cp8, H8, rfl, hle8, hr8, hcp8, hc⟩ := hR
  replace hS := hS.call hc
  replace hg := hg.mono hc.le
  replace hr := hr.mono hc.le
  replace hr2 := hr2.mono hc.le
  replace hr3 := hr3.mono hc.le
  replace hoe3 := hoe3.mono hc.le
  replace hr4 := hr4.mono hc.le
  replace hoe4 := hoe4.mono hc.le
  replace hr7 := hr7.mono hc.le
  refine hK23 _ _ _ hS (fun _ h => h.forget hsub hc.le) ?_
  refine r_one (i := 11) (by kernel_rfl) ?_
  have hsub := hS.sub
  refine r_li rfl rfl (fun K24 hK24 => l_call en18 hF rfl rfl (SChain_c f (List.map En.dg (es4.take n)) ad8 cp8 (by rw [List.length_map, List.length_take]; omega) _ _ hS.fz hg hr8) (fun v24 w hR a hF => ?_))
  obtain ⟨rfl, hc⟩ := hR
  replace hS := hS.call0 hc
  refine hK24 _ _ _ hS (fun _ h => h) ?_
  refine r_q (i := 12) rfl rfl hF hS (q_neDg gu35 Tryd.underlying35 Tryd.underlying5 ty5 rfl rfl) rfl (fun a hF => ?_)
  refine r_q (i := 13) rfl rfl hF hS (q_assign rfl) rfl (fun a hF => ?_)
  refine r_done (by kernel_rfl) ?_
  refine hK20 _ _ ?_
  refine c_seq (fun K25 hK25 => ?_)
  refine c_reg ?_
  obtain ⟨df, hdf⟩ : ∃ q, q = tb (Differ f (List.map En.dg es3) (List.map En.dg es4)) := ⟨_, rfl⟩
  refine rw_ hF (s := 17) (u := .bool df) rfl (by rw [dg_take_map, dg_take_map, hdf]; exact congrArg Value.bool (differ_val (by rw [List.length_map, List.length_map]; exact hnn))) (fun hF => ?_)
  refine n_q hF hS (q_load0 ty26 rfl (i := 0) rfl rfl rfl) rfl (fun a hF => ?_)
  refine n_q hF hS (q_move rfl) rfl (fun a hF => ?_)
  refine n_q hF hS (q_move rfl) rfl (fun a hF => ?_)
  refine n_l rfl (fun K26 hK26 => l_call en15 hF rfl rfl (StSign_c (newS id priv) f es3 ad3 cp3 (by omega) _ _ hS.fz hg (newS_good hopen _).ok hr3) (fun v26 w hR a hF => ?_))
  obtain ⟨hv, hc⟩ := hR
  rw [newS_sign hopen (by omega)] at hv
  have hmh : MkH id priv f (List.map En.dg (es3)) (signH (newS id priv) f (List.map En.dg (es3))) := mk_facts hopen (by rw [List.length_map]; omega)
  obtain ⟨h, hxh⟩ : ∃ q, q = signH (newS id priv) f (List.map En.dg (es3)) := ⟨_, rfl⟩
  rw [← hxh] at hv hmh
  subst hv
  replace hS := hS.call0 hc
  refine hK26 _ _ ?_
  refine n_q hF hS (q_move rfl) rfl (fun a hF => ?_)
  refine n_q hF hS (q_extract (i := 0) rfl rfl) rfl (fun a hF => ?_)
  refine n_q hF hS (q_extract (i := 1) rfl rfl) rfl (fun a hF => ?_)
  refine n_l rfl (fun K27 hK27 => l_alloc hF hS zr39 rfl (fun a w b2 hF hS => hK27 _ _ ?_))
  refine n_l rfl (fun K28 hK28 => l_store0A ty39 hF hS rfl rfl (i := 0) rfl (by simp [dc_length, Hd.c_len, En.c_len, Fk.c_len, List.length_replicate, List.length_cons, List.length_nil, List.length_append]) (by simp [dc_length, Hd.c_len, En.c_len, Fk.c_len, List.length_replicate, List.length_cons, List.length_nil, List.length_append]) (Hd.c_all1 _) (fun a w hF hS => hK28 _ _ ?_))
  refine n_q hF hS (q_assign rfl) rfl (fun a hF => ?_)
  refine hK25 _ _ ?_
  refine c_seq (fun K29 hK29 => ?_)
  refine c_reg ?_
  refine n_q hF hS (q_load0 ty26 rfl (i := 1) rfl rfl rfl) rfl (fun a hF => ?_)
  refine n_q hF hS (q_move rfl) rfl (fun a hF => ?_)
  refine n_q hF hS (q_move rfl) rfl (fun a hF => ?_)
  refine n_l rfl (fun K30 hK30 => l_call en15 hF rfl rfl (StSign_c (newS id priv) f es4 ad4 cp4 (by omega) _ _ hS.fz hg (newS_good hopen _).ok hr4) (fun v30 w hR a hF => ?_))
  obtain ⟨hv, hc⟩ := hR
  rw [newS_sign hopen (by omega)] at hv
  have hmk : MkH id priv f (List.map En.dg (es4)) (signH (newS id priv) f (List.map En.dg (es4))) := mk_facts hopen (by rw [List.length_map]; omega)
  obtain ⟨k, hxk⟩ : ∃ q, q = signH (newS id priv) f (List.map En.dg (es4)) := ⟨_, rfl⟩
  rw [← hxk] at hv hmk
  subst hv
  replace hS := hS.call0 hc
  refine hK30 _ _ ?_
  refine n_q hF hS (q_move rfl) rfl (fun a hF => ?_)
  refine n_q hF hS (q_extract (i := 0) rfl rfl) rfl (fun a hF => ?_)
  refine n_q hF hS (q_extract (i := 1) rfl rfl) rfl (fun a hF => ?_)
  refine n_l rfl (fun K31 hK31 => l_alloc hF hS zr39 rfl (fun a w b3 hF hS => hK31 _ _ ?_))
  refine n_l rfl (fun K32 hK32 => l_store0A ty39 hF hS rfl rfl (i := 0) rfl (by simp [dc_length, Hd.c_len, En.c_len, Fk.c_len, List.length_replicate, List.length_cons, List.length_nil, List.length_append]) (by simp [dc_length, Hd.c_len, En.c_len, Fk.c_len, List.length_replicate, List.length_cons, List.length_nil, List.length_append]) (Hd.c_all1 _) (fun a w hF hS => hK32 _ _ ?_))
  refine n_q hF hS (q_assign rfl) rfl (fun a hF => ?_)
  refine hK29 _ _ ?_
  refine c_join (γ := Nat × Nat × Vw × Fk) hF hS [22, 23, 24, 93, 94, 95, 96, 97, 98, 99, 100, 101, 102, 103] (fun g => [(22, .pointer (some ⟨g.1, 0, none⟩)), (23, .pointer (some ⟨g.2.1, 0, none⟩)), (24, .int .i64 0)]) (fun g => [⟨g.1, g.2.2.1.c, 77⟩, ⟨g.2.1, g.2.2.2.c, 82⟩, ⟨b3, k.c, 39⟩, ⟨b2, h.c, 39⟩, ⟨b1, (newS id priv).c, 26⟩]) (fun g H => VwOK H g.2.2.1 ∧ FkOK H g.2.2.2 ∧ V1 id priv f (List.map En.dg es3) h g.2.2.1) ?_ ?_
  intro g a w H hle hF hS hJ
  replace hg := hg.mono hle
  replace hr := hr.mono hle
  replace hr2 := hr2.mono hle
  replace hr3 := hr3.mono hle
  replace hoe3 := hoe3.mono hle
  replace hr4 := hr4.mono hle
  replace hoe4 := hoe4.mono hle
  replace hr7 := hr7.mono hle
  replace hr8 := hr8.mono hle
  obtain ⟨bva, cva, va, fva⟩ := g
  obtain ⟨hova, hofva, hpva⟩ := hJ
  try dsimp only at hF hS hova hofva hpva
  refine c_join (γ := Nat × Nat × Vw × Fk) hF hS [25, 26, 27, 104, 105, 106, 107, 108, 109, 110, 111, 112, 113, 114] (fun g => [(25, .pointer (some ⟨g.1, 0, none⟩)), (26, .pointer (some ⟨g.2.1, 0, none⟩)), (27, .int .i64 0)]) (fun g => [⟨g.1, g.2.2.1.c, 77⟩, ⟨g.2.1, g.2.2.2.c, 82⟩, ⟨bva, va.c, 77⟩, ⟨cva, fva.c, 82⟩, ⟨b3, k.c, 39⟩, ⟨b2, h.c, 39⟩, ⟨b1, (newS id priv).c, 26⟩]) (fun g H => VwOK H g.2.2.1 ∧ FkOK H g.2.2.2 ∧ V1 id priv f (List.map En.dg es4) k g.2.2.1) ?_ ?_
  intro g a w H hle hF hS hJ
  replace hg := hg.mono hle
  replace hr := hr.mono hle
  replace hr2 := hr2.mono hle
  replace hr3 := hr3.mono hle
  replace hoe3 := hoe3.mono hle
  replace hr4 := hr4.mono hle
  replace hoe4 := hoe4.mono hle
  replace hr7 := hr7.mono hle
  replace hr8 := hr8.mono hle
  replace hova := hova.mono hle
  replace hofva := hofva.mono hle
  obtain ⟨bvb, cvb, vb, fvb⟩ := g
  obtain ⟨hovb, hofvb, hpvb⟩ := hJ
  try dsimp only at hF hS hovb hofvb hpvb
  refine c_seq (fun K35 hK35 => ?_)
  refine c_seq (fun K36 hK36 => ?_)
  refine c_reg ?_
  refine n_q hF hS (q_move rfl) rfl (fun a hF => ?_)
  refine n_q hF hS (q_neI rfl rfl) rfl (fun a hF => ?_)
  refine n_q hF hS (q_move rfl) rfl (fun a hF => ?_)
  refine rw_ hF (s := 117) (u := .bool false) rfl (by rfl) (fun hF => ?_)
  refine n_yes hF rfl ?_
  refine n_q hF hS (q_move rfl) rfl (fun a hF => ?_)
  refine n_yes hF rfl ?_
  refine n_q hF hS (q_neI rfl rfl) rfl (fun a hF => ?_)
  refine n_q hF hS (q_pick (b := false) rfl rfl) rfl (fun a hF => ?_)
  refine n_q hF hS (q_move rfl) rfl (fun a hF => ?_)
  refine rw_ hF (s := 121) (u := .bool false) rfl (by rfl) (fun hF => ?_)
  refine n_yes hF rfl ?_
  refine n_q hF hS (q_move rfl) rfl (fun a hF => ?_)
  refine n_yes hF rfl ?_
  refine n_q hF hS (q_neI rfl rfl) rfl (fun a hF => ?_)
  refine n_q hF hS (q_pick (b := false) rfl rfl) rfl (fun a hF => ?_)
  refine n_q hF hS (q_move rfl) rfl (fun a hF => ?_)
  refine rw_ hF (s := 125) (u := .bool false) rfl (by rfl) (fun hF => ?_)
  refine n_yes hF rfl ?_
  refine n_q hF hS (q_move rfl) rfl (fun a hF => ?_)
  refine n_yes hF rfl ?_
  refine n_q hF hS (q_neI rfl rfl) rfl (fun a hF => ?_)
  refine n_q hF hS (q_pick (b := false) rfl rfl) rfl (fun a hF => ?_)
  refine hK36 _ _ ?_
  refine rw_ hF (s := 128) (u := .bool false) rfl (by rfl) (fun hF => ?_)
  refine c_false hF rfl ?_
  refine wp_skip ?_
  refine hK35 _ _ ?_
  refine c_seq (fun K37 hK37 => ?_)
  refine c_reg ?_
  refine n_q hF hS (q_load0 ty77 rfl (i := 2) rfl rfl rfl) rfl (fun a hF => ?_)
  refine n_q hF hS (q_load0 ty77 rfl (i := 0) rfl rfl rfl) rfl (fun a hF => ?_)
  refine n_l rfl (fun K38 hK38 => l_call en34 hF rfl rfl (Compare_v_c va vb _ _ hS.fz hg hova hovb) (fun v38 w hR a hF => ?_))
  obtain ⟨rfl, hc⟩ := hR
  replace hS := hS.call0 hc
  refine hK38 _ _ ?_
  refine n_q hF hS (q_move rfl) rfl (fun a hF => ?_)
  refine n_q hF hS (q_extract (i := 0) rfl rfl) rfl (fun a hF => ?_)
  refine n_q hF hS (q_extract (i := 1) rfl rfl) rfl (fun a hF => ?_)
  refine n_l rfl (fun K39 hK39 => l_alloc hF hS zr82 rfl (fun a w b4 hF hS => hK39 _ _ ?_))
  refine n_l rfl (fun K40 hK40 => l_store0A ty82 hF hS rfl rfl (i := 0) rfl (by simp [dc_length, Hd.c_len, En.c_len, Fk.c_len, List.length_replicate, List.length_cons, List.length_nil, List.length_append]) (by simp [dc_length, Hd.c_len, En.c_len, Fk.c_len, List.length_replicate, List.length_cons, List.length_nil, List.length_append]) (Fk.c_all1 _) (fun a w hF hS => hK40 _ _ ?_))
  refine n_q hF hS (q_assign rfl) rfl (fun a hF => ?_)
  refine hK37 _ _ ?_
  refine c_seq (fun K41 hK41 => ?_)
  refine c_reg ?_
  refine n_q hF hS (q_load0 ty77 rfl (i := 1) rfl rfl rfl) rfl (fun a hF => ?_)
  refine n_q hF hS (q_load0 ty77 rfl (i := 3) rfl rfl rfl) rfl (fun a hF => ?_)
  refine n_l rfl (fun K42 hK42 => l_call en34 hF rfl rfl (Compare_v_c vb va _ _ hS.fz hg hovb hova) (fun v42 w hR a hF => ?_))
  obtain ⟨rfl, hc⟩ := hR
  replace hS := hS.call0 hc
  refine hK42 _ _ ?_
  refine n_q hF hS (q_move rfl) rfl (fun a hF => ?_)
  refine n_q hF hS (q_extract (i := 0) rfl rfl) rfl (fun a hF => ?_)
  refine n_q hF hS (q_extract (i := 1) rfl rfl) rfl (fun a hF => ?_)
  refine n_l rfl (fun K43 hK43 => l_alloc hF hS zr82 rfl (fun a w b5 hF hS => hK43 _ _ ?_))
  refine n_l rfl (fun K44 hK44 => l_store0A ty82 hF hS rfl rfl (i := 0) rfl (by simp [dc_length, Hd.c_len, En.c_len, Fk.c_len, List.length_replicate, List.length_cons, List.length_nil, List.length_append]) (by simp [dc_length, Hd.c_len, En.c_len, Fk.c_len, List.length_replicate, List.length_cons, List.length_nil, List.length_append]) (Fk.c_all1 _) (fun a w hF hS => hK44 _ _ ?_))
  refine n_q hF hS (q_assign rfl) rfl (fun a hF => ?_)
  refine hK41 _ _ ?_
  refine c_seq (fun K45 hK45 => ?_)
  refine c_reg ?_
  refine n_q hF hS (q_load0 ty77 rfl (i := 4) rfl rfl rfl) rfl (fun a hF => ?_)
  refine n_q hF hS (q_move rfl) rfl (fun a hF => ?_)
  refine n_q hF hS (q_load0 ty39 rfl (i := 6) rfl (by simp [dc_length, Hd.c_len, En.c_len, Fk.c_len, List.length_replicate, List.length_cons, List.length_nil, List.length_append]) rfl) rfl (fun a hF => ?_)
  refine n_l rfl (fun K46 hK46 => l_call en37 hF rfl rfl (Accept_c va es4 ad4 cp4 k (by omega) _ _ hS.fz hg hova hr4 hoe4) (fun v46 w hR a hF => ?_))
  obtain ⟨vz9, fvz9, evz, H9, rfl, hle9, hovz9, hofvz9, har9, hc⟩ := hR
  replace hS := hS.call hc
  have hzz := acc_other hpva hmk rfl hie4 har9
  have hz1 : decide (evz = 321) = df := by
    rcases hzz with ⟨q1, q2, _⟩ | ⟨q1, q2⟩
    · rw [hdf, tb_true q1, q2]; rfl
    · rw [hdf, tb_false q1, q2]; rfl
  have hz2 : decide (evz = 0) = !df := by
    rcases hzz with ⟨q1, q2, _⟩ | ⟨q1, q2⟩
    · rw [hdf, tb_true q1, q2]; rfl
    · rw [hdf, tb_false q1, q2]; rfl
  replace hg := hg.mono hc.le
  replace hr := hr.mono hc.le
  replace hr2 := hr2.mono hc.le
  replace hr3 := hr3.mono hc.le
  replace hoe3 := hoe3.mono hc.le
  replace hr4 := hr4.mono hc.le
  replace hoe4 := hoe4.mono hc.le
  replace hr7 := hr7.mono hc.le
  replace hr8 := hr8.mono hc.le
  replace hova := hova.mono hc.le
  replace hofva := hofva.mono hc.le
  replace hovb := hovb.mono hc.le
  replace hofvb := hofvb.mono hc.le
  refine hK46 _ _ ?_
  refine n_q hF hS (q_move rfl) rfl (fun a hF => ?_)
  refine n_q hF hS (q_extract (i := 0) rfl rfl) rfl (fun a hF => ?_)
  refine n_q hF hS (q_extract (i := 1) rfl rfl) rfl (fun a hF => ?_)
  refine n_q hF hS (q_extract (i := 2) rfl rfl) rfl (fun a hF => ?_)
  refine n_l rfl (fun K47 hK47 => l_alloc hF hS zr77 rfl (fun a w b6 hF hS => hK47 _ _ ?_))
  refine n_l rfl (fun K48 hK48 => l_alloc hF hS zr82 rfl (fun a w b7 hF hS => hK48 _ _ ?_))
  refine n_l rfl (fun K49 hK49 => l_store0A ty77 hF hS rfl rfl (i := 1) rfl rfl rfl rfl (fun a w hF hS => hK49 _ _ ?_))
  refine n_l rfl (fun K50 hK50 => l_store0A ty82 hF hS rfl rfl (i := 0) rfl (by simp [dc_length, Hd.c_len, En.c_len, Fk.c_len, List.length_replicate, List.length_cons, List.length_nil, List.length_append]) (by simp [dc_length, Hd.c_len, En.c_len, Fk.c_len, List.length_replicate, List.length_cons, List.length_nil, List.length_append]) (Fk.c_all1 _) (fun a w hF hS => hK50 _ _ ?_))
  refine n_q hF hS (q_assign rfl) rfl (fun a hF => ?_)
  refine hK45 _ _ ?_
  refine c_seq (fun K51 hK51 => ?_)
  refine c_seq (fun K52 hK52 => ?_)
  refine c_reg ?_
  have hcc1 := cmp_two hpva hpvb
  have hcc2 := cmp_two hpvb hpva
  have hcv1 : (cmpO va vb).isSome = df := by rw [hdf]; exact hcc1.1
  have hcv2 : (cmpO vb va).isSome = df := by rw [hdf, differ_comm]; exact hcc2.1
  refine n_q hF hS (q_move rfl) rfl (fun a hF => ?_)
  refine n_q hF hS (q_move rfl) rfl (fun a hF => ?_)
  refine n_q hF hS (q_neB Tryd.underlying4 rfl rfl) rfl (fun a hF => ?_)
  refine n_q hF hS (q_move rfl) rfl (fun a hF => ?_)
  refine rw_ hF (s := 152) (u := .bool false) rfl (by simp [hcv1]) (fun hF => ?_)
  refine n_yes hF rfl ?_
  refine n_q hF hS (q_move rfl) rfl (fun a hF => ?_)
  refine n_yes hF rfl ?_
  refine n_q hF hS (q_move rfl) rfl (fun a hF => ?_)
  refine n_yes hF rfl ?_
  refine n_q hF hS (q_neB Tryd.underlying4 rfl rfl) rfl (fun a hF => ?_)
  refine n_q hF hS (q_pick (b := false) rfl rfl) rfl (fun a hF => ?_)
  refine n_q hF hS (q_move rfl) rfl (fun a hF => ?_)
  refine rw_ hF (s := 157) (u := .bool false) rfl (by simp [hcv2]) (fun hF => ?_)
  refine n_yes hF rfl ?_
  refine n_q hF hS (q_move rfl) rfl (fun a hF => ?_)
  refine n_yes hF rfl ?_
  refine n_q hF hS (q_eqI rfl rfl) rfl (fun a hF => ?_)
  refine n_yes hF rfl ?_
  refine n_q hF hS (q_move rfl) rfl (fun a hF => ?_)
  refine n_yes hF rfl ?_
  refine n_q hF hS (q_neB Tryd.underlying4 rfl rfl) rfl (fun a hF => ?_)
  refine n_q hF hS (q_pick (b := false) rfl rfl) rfl (fun a hF => ?_)
  refine n_q hF hS (q_move rfl) rfl (fun a hF => ?_)
  refine rw_ hF (s := 163) (u := .bool false) rfl (by simp [hz1]) (fun hF => ?_)
  refine n_yes hF rfl ?_
  refine n_q hF hS (q_move rfl) rfl (fun a hF => ?_)
  refine n_yes hF rfl ?_
  refine n_q hF hS (q_eqI rfl rfl) rfl (fun a hF => ?_)
  refine n_yes hF rfl ?_
  refine n_q hF hS (q_move rfl) rfl (fun a hF => ?_)
  refine n_yes hF rfl ?_
  refine n_q hF hS (q_eqB Tryd.underlying4 rfl rfl) rfl (fun a hF => ?_)
  refine n_q hF hS (q_pick (b := false) rfl rfl) rfl (fun a hF => ?_)
  refine hK52 _ _ ?_
  refine rw_ hF (s := 168) (u := .bool false) rfl (by rw [hz2]; cases df <;> rfl) (fun hF => ?_)
  refine c_false hF rfl ?_
  refine wp_skip ?_
  refine hK51 _ _ ?_
  refine c_seq (fun K53 hK53 => ?_)
  refine c_reg ?_
  refine n_q hF hS (q_move rfl) rfl (fun a hF => ?_)
  refine n_q hF hS (q_not rfl) rfl (fun a hF => ?_)
  refine n_q hF hS (q_move rfl) rfl (fun a hF => ?_)
  refine sp hF (s := 171) rfl (fun hc171 hF => ?_) (fun hc171 hF => ?_)
  refine n_no hF (b := true) rfl rfl rfl (fun a hF => ?_)
  refine n_no hF (b := true) rfl rfl rfl (fun a hF => ?_)
  refine n_no hF (b := true) rfl rfl rfl (fun a hF => ?_)
  refine n_no hF (b := true) rfl rfl rfl (fun a hF => ?_)
  refine n_no hF (b := true) rfl rfl rfl (fun a hF => ?_)
  refine n_nou hF rfl rfl (fun a hF => ?_)
  refine n_nou hF rfl rfl (fun a hF => ?_)
  refine n_nou hF rfl rfl (fun a hF => ?_)
  refine n_nou hF rfl rfl (fun a hF => ?_)
  refine n_no hF (b := true) rfl rfl rfl (fun a hF => ?_)
  refine n_no hF (b := true) rfl rfl rfl (fun a hF => ?_)
  refine n_nou hF rfl rfl (fun a hF => ?_)
  refine n_nou hF rfl rfl (fun a hF => ?_)
  refine n_nou hF rfl rfl (fun a hF => ?_)
  refine n_nou hF rfl rfl (fun a hF => ?_)
  refine n_no hF (b := true) rfl rfl rfl (fun a hF => ?_)
  refine n_q hF hS (q_pick (b := true) rfl rfl) rfl (fun a hF => ?_)
  refine n_q hF hS (q_assign rfl) rfl (fun a hF => ?_)
  refine hK53 _ _ ?_
  refine c_ret ?_
  repeat (first | refine ret_then ?_ | refine ret_blk ?_)
  refine c_ret' (P := Tryd.prog) (fn := Tryd.f8) rfl hF hS (.tmp rfl .nil) ⟨_, rfl, ?_⟩
  exact ⟨rfl, hS.same⟩
  refine n_yes hF rfl ?_
  refine n_q hF hS (q_move rfl) rfl (fun a hF => ?_)
  refine n_yes hF rfl ?_
  refine n_q hF hS (q_load0 ty82 rfl (i := 3) rfl (by simp [dc_length, Hd.c_len, En.c_len, Fk.c_len, List.length_replicate, List.length_cons, List.length_nil, List.length_append]) rfl) rfl (fun a hF => ?_)
  refine n_yes hF rfl ?_
  refine n_l rfl (fun K54 hK54 => l_call en39 hF rfl rfl (Prove_c (pubP priv).1 ((cmpO va vb).getD zFk) _ _ hS.fz hg (cmp_ok hova hovb)) (fun v54 w hR a hF => ?_))
  have hpv : Proves (pubP priv).1 ((cmpO va vb).getD zFk).A ((cmpO va vb).getD zFk).B ((cmpO va vb).getD zFk).ds := hcc1.2 _ (isSome_getD (by rw [hcv1]; simpa using hc171))
  obtain ⟨hv, hc⟩ := hR
  rw [tb_true hpv] at hv
  subst hv
  replace hS := hS.call0 hc
  refine hK54 _ _ ?_
  refine n_yes hF rfl ?_
  refine n_q hF hS (q_eqI rfl rfl) rfl (fun a hF => ?_)
  refine n_yes hF rfl ?_
  refine n_q hF hS (q_move rfl) rfl (fun a hF => ?_)
  refine spT hF (s := 176) rfl (by rfl) (fun hF => ?_)
  refine n_yes hF rfl ?_
  refine n_q hF hS (q_move rfl) rfl (fun a hF => ?_)
  refine n_yes hF rfl ?_
  refine n_q hF hS (q_load0 ty82 rfl (i := 2) rfl (by simp [dc_length, Hd.c_len, En.c_len, Fk.c_len, List.length_replicate, List.length_cons, List.length_nil, List.length_append]) rfl) rfl (fun a hF => ?_)
  refine n_yes hF rfl ?_
  refine n_l rfl (fun K55 hK55 => l_call en39 hF rfl rfl (Prove_c (pubP priv).1 ((cmpO vb va).getD zFk) _ _ hS.fz hg (cmp_ok hovb hova)) (fun v55 w hR a hF => ?_))
  have hpv : Proves (pubP priv).1 ((cmpO vb va).getD zFk).A ((cmpO vb va).getD zFk).B ((cmpO vb va).getD zFk).ds := hcc2.2 _ (isSome_getD (by rw [hcv2]; simpa using hc171))
  obtain ⟨hv, hc⟩ := hR
  rw [tb_true hpv] at hv
  subst hv
  replace hS := hS.call0 hc
  refine hK55 _ _ ?_
  refine n_yes hF rfl ?_
  refine n_q hF hS (q_eqI rfl rfl) rfl (fun a hF => ?_)
  refine n_yes hF rfl ?_
  refine n_q hF hS (q_pick (b := true) rfl rfl) rfl (fun a hF => ?_)
  refine n_yes hF rfl ?_
  refine n_q hF hS (q_move rfl) rfl (fun a hF => ?_)
  refine spT hF (s := 182) rfl (by rfl) (fun hF => ?_)
  refine n_yes hF rfl ?_
  refine n_q hF hS (q_move rfl) rfl (fun a hF => ?_)
  refine n_yes hF rfl ?_
  refine n_q hF hS (q_load0 ty82 rfl (i := 0) rfl (by simp [dc_length, Hd.c_len, En.c_len, Fk.c_len, List.length_replicate, List.length_cons, List.length_nil, List.length_append]) rfl) rfl (fun a hF => ?_)
  refine n_yes hF rfl ?_
  refine n_l rfl (fun K56 hK56 => l_call en39 hF rfl rfl (Prove_c (pubP priv).1 (fvz9) _ _ hS.fz hg hofvz9) (fun v56 w hR a hF => ?_))
  have hpv : Proves (pubP priv).1 (fvz9).A (fvz9).B (fvz9).ds := (by
    rcases hzz with ⟨q1, _, _, q2, _⟩ | ⟨q1, _⟩
    · exact q2
    · rw [hdf, tb_false q1] at hc171; cases hc171)
  obtain ⟨hv, hc⟩ := hR
  rw [tb_true hpv] at hv
  subst hv
  replace hS := hS.call0 hc
  refine hK56 _ _ ?_
  refine n_yes hF rfl ?_
  refine n_q hF hS (q_eqI rfl rfl) rfl (fun a hF => ?_)
  refine n_yes hF rfl ?_
  refine n_q hF hS (q_pick (b := true) rfl rfl) rfl (fun a hF => ?_)
  refine n_q hF hS (q_pick (b := false) rfl rfl) rfl (fun a hF => ?_)
  refine n_q hF hS (q_assign rfl) rfl (fun a hF => ?_)
  refine hK53 _ _ ?_
  refine c_ret ?_
  repeat (first | refine ret_then ?_ | refine ret_blk ?_)
  refine c_ret' (P := Tryd.prog) (fn := Tryd.f8) rfl hF hS (.tmp rfl .nil) ⟨_, rfl, ?_⟩
  exact ⟨rfl, hS.same⟩
  intro K34 hK34
  have hj34 := hS.rl
  refine r_start (fun L => L) [] mo hS (fun w hS => ?_)
  refine r_q (i := 0) rfl rfl hF (hS.lose (by first | exact .refl _ | exact .cons _ (.refl _) | exact .cons _ (.cons _ (.refl _)))) (q_move rfl) rfl (fun a hF => ?_)
  refine r_q (i := 1) rfl rfl hF (hS.lose (by first | exact .refl _ | exact .cons _ (.refl _) | exact .cons _ (.cons _ (.refl _)))) (q_move rfl) rfl (fun a hF => ?_)
  refine r_q (i := 2) rfl rfl hF (hS.lose (by first | exact .refl _ | exact .cons _ (.refl _) | exact .cons _ (.cons _ (.refl _)))) (q_move rfl) rfl (fun a hF => ?_)
  refine r_q (i := 4) rfl rfl hF (hS.lose (by first | exact .refl _ | exact .cons _ (.refl _) | exact .cons _ (.cons _ (.refl _)))) (q_move rfl) rfl (fun a hF => ?_)
  refine r_q (i := 5) rfl rfl hF (hS.lose (by first | exact .refl _ | exact .cons _ (.refl _) | exact .cons _ (.cons _ (.refl _)))) (q_load0 ty39 rfl (i := 2) rfl (by simp [dc_length, Hd.c_len, En.c_len, Fk.c_len, List.length_replicate, List.length_cons, List.length_nil, List.length_append]) rfl) rfl (fun a hF => ?_)
  refine r_three (i := 3) (j := 11) (l := 12) (by kernel_rfl) ?_ ?_ ?_
  have hsub := hS.sub
  refine r_li rfl rfl (fun K57 hK57 => l_call en38 hF rfl rfl (VNew_c id f (pubP priv).1 _ _ hS.fz) (fun v57 w hR a hF => ?_))
  obtain ⟨rfl, hc⟩ := hR
  replace hS := hS.call0 hc
  refine hK57 _ _ _ (hS.lose (by first | exact .refl _ | exact .cons _ (.refl _) | exact .cons _ (.cons _ (.refl _)))) (fun _ h => h) ?_
  refine r_three (i := 6) (j := 11) (l := 12) (by kernel_rfl) ?_ ?_ ?_
  have hsub := hS.sub
  refine r_li rfl rfl (fun K58 hK58 => l_call en37 hF rfl rfl (Accept_c (Vw.mk id f (pubP priv).1 none 0 [] none 0 []) es4 ad4 cp4 k (by omega) _ _ hS.fz hg (VwOK.new _ _ _ _) hr4 hoe4) (fun v58 w hR a hF => ?_))
  obtain ⟨vb9, fvb9, evb, H9, rfl, hle9, hovb9, hofvb9, har9, hc⟩ := hR
  replace hS := hS.call hc
  obtain ⟨hfk9, rfl, hv19⟩ := acc_new (VOf.new hopen []) rfl hmk rfl hie4 har9
  replace hg := hg.mono hc.le
  replace hr := hr.mono hc.le
  replace hr2 := hr2.mono hc.le
  replace hr3 := hr3.mono hc.le
  replace hoe3 := hoe3.mono hc.le
  replace hr4 := hr4.mono hc.le
  replace hoe4 := hoe4.mono hc.le
  replace hr7 := hr7.mono hc.le
  replace hr8 := hr8.mono hc.le
  replace hova := hova.mono hc.le
  replace hofva := hofva.mono hc.le
  replace hj34 := hj34.mono hc.le
  refine hK58 _ _ _ (hS.lose (by first | exact .refl _ | exact .cons _ (.refl _) | exact .cons _ (.cons _ (.refl _)))) (fun _ h => h.forget hsub hc.le) ?_
  refine r_q (i := 7) rfl rfl hF (hS.lose (by first | exact .refl _ | exact .cons _ (.refl _) | exact .cons _ (.cons _ (.refl _)))) (q_move rfl) rfl (fun a hF => ?_)
  refine r_q (i := 8) rfl rfl hF (hS.lose (by first | exact .refl _ | exact .cons _ (.refl _) | exact .cons _ (.cons _ (.refl _)))) (q_extract (i := 0) rfl rfl) rfl (fun a hF => ?_)
  refine r_q (i := 9) rfl rfl hF (hS.lose (by first | exact .refl _ | exact .cons _ (.refl _) | exact .cons _ (.cons _ (.refl _)))) (q_extract (i := 1) rfl rfl) rfl (fun a hF => ?_)
  refine r_q (i := 10) rfl rfl hF (hS.lose (by first | exact .refl _ | exact .cons _ (.refl _) | exact .cons _ (.cons _ (.refl _)))) (q_extract (i := 2) rfl rfl) rfl (fun a hF => ?_)
  refine r_two (i := 11) (j := 12) (by kernel_rfl) ?_ ?_
  refine r_li rfl rfl (fun K59 hK59 => l_alloc hF hS zr77 rfl (fun a w b8 hF hS => hK59 _ _ _ (hS.lose (by first | exact .refl _ | exact .cons _ (.refl _) | exact .cons _ (.cons _ (.refl _)))) (fun _ h => h) ?_))
  refine r_one (i := 12) (by kernel_rfl) ?_
  refine r_li rfl rfl (fun K60 hK60 => l_alloc hF hS zr82 rfl (fun a w b9 hF hS => hK60 _ _ _ (hS.lose (by first | exact .refl _ | exact .cons _ (.refl _) | exact .cons _ (.cons _ (.refl _)))) (fun _ h => h) ?_))
  refine r_one (i := 13) (by kernel_rfl) ?_
  refine r_li rfl rfl (fun K61 hK61 => l_store0A ty77 hF hS rfl rfl (i := 1) rfl rfl rfl rfl (fun a w hF hS => hK61 _ _ _ (hS.lose (by first | exact .refl _ | exact .cons _ (.refl _) | exact .cons _ (.cons _ (.refl _)))) (fun _ h => h) ?_))
  refine r_one (i := 14) (by kernel_rfl) ?_
  refine r_li rfl rfl (fun K62 hK62 => l_store0A ty82 hF hS rfl rfl (i := 0) rfl (by simp [dc_length, Hd.c_len, En.c_len, Fk.c_len, List.length_replicate, List.length_cons, List.length_nil, List.length_append]) (by simp [dc_length, Hd.c_len, En.c_len, Fk.c_len, List.length_replicate, List.length_cons, List.length_nil, List.length_append]) (Fk.c_all1 _) (fun a w hF hS => hK62 _ _ _ (hS.lose (by first | exact .refl _ | exact .cons _ (.refl _) | exact .cons _ (.cons _ (.refl _)))) (fun _ h => h) ?_))
  refine r_q (i := 15) rfl rfl hF (hS.lose (by first | exact .refl _ | exact .cons _ (.refl _) | exact .cons _ (.cons _ (.refl _)))) (q_assign rfl) rfl (fun a hF => ?_)
  refine r_done (by kernel_rfl) ?_
  exact hK34 ((b8, b9, vb9, fvb9)) _ _ _ hj34 (hF.meet ⟨rfl, rfl, rfl, trivial⟩ (by repeat first | exact Ext.remr _ _ | refine Ext.push rfl ?_ | refine Ext.rem' rfl ?_)) (St.perm (L := _ :: _ :: _) (L' := _ :: _ :: _) hS (List.Perm.swap _ _ _)) ⟨hovb9, hofvb9, hv19⟩
  refine r_li rfl rfl (fun K63 hK63 => l_alloc hF hS zr82 rfl (fun a w b10 hF hS => hK63 _ _ _ (hS.lose (by first | exact .refl _ | exact .cons _ (.refl _) | exact .cons _ (.cons _ (.refl _)))) (fun _ h => h) ?_))
  refine r_one (i := 11) (by kernel_rfl) ?_
  refine r_li rfl rfl (fun K64 hK64 => l_alloc hF hS zr77 rfl (fun a w b11 hF hS => hK64 _ _ _ (hS.lose (by first | exact .refl _ | exact .cons _ (.refl _) | exact .cons _ (.cons _ (.refl _)))) (fun _ h => h) ?_))
  refine r_one (i := 13) (by kernel_rfl) ?_
  refine r_li rfl rfl (fun K65 hK65 => l_store0A ty77 hF hS rfl rfl (i := 0) rfl rfl rfl rfl (fun a w hF hS => hK65 _ _ _ (hS.lose (by first | exact .refl _ | exact .cons _ (.refl _) | exact .cons _ (.cons _ (.refl _)))) (fun _ h => h) ?_))
  refine r_one (i := 14) (by kernel_rfl) ?_
  refine r_li rfl rfl (fun K66 hK66 => l_store0A ty82 hF hS rfl rfl (i := 1) rfl (by simp [dc_length, Hd.c_len, En.c_len, Fk.c_len, List.length_replicate, List.length_cons, List.length_nil, List.length_append]) (by simp [dc_length, Hd.c_len, En.c_len, Fk.c_len, List.length_replicate, List.length_cons, List.length_nil, List.length_append]) (Fk.c_all1 _) (fun a w hF hS => hK66 _ _ _ (hS.lose (by first | exact .refl _ | exact .cons _ (.refl _) | exact .cons _ (.cons _ (.refl _)))) (fun _ h => h) ?_))
  refine r_q (i := 15) rfl rfl hF (hS.lose (by first | exact .refl _ | exact .cons _ (.refl _) | exact .cons _ (.cons _ (.refl _)))) (q_assign rfl) rfl (fun a hF => ?_)
  refine r_done (by kernel_rfl) ?_
  exact hK34 ((b11, b10, vb9, fvb9)) _ _ _ hj34 (hF.meet ⟨rfl, rfl, rfl, trivial⟩ (by repeat first | exact Ext.remr _ _ | refine Ext.push rfl ?_ | refine Ext.rem' rfl ?_)) hS ⟨hovb9, hofvb9, hv19⟩
  refine r_li rfl rfl (fun K67 hK67 => l_alloc hF hS zr77 rfl (fun a w b12 hF hS => hK67 _ _ _ (hS.lose (by first | exact .refl _ | exact .cons _ (.refl _) | exact .cons _ (.cons _ (.refl _)))) (fun _ h => h) ?_))
  refine r_two (i := 6) (j := 12) (by kernel_rfl) ?_ ?_
  have hsub := hS.sub
  refine r_li rfl rfl (fun K68 hK68 => l_call en37 hF rfl rfl (Accept_c (Vw.mk id f (pubP priv).1 none 0 [] none 0 []) es4 ad4 cp4 k (by omega) _ _ hS.fz hg (VwOK.new _ _ _ _) hr4 hoe4) (fun v68 w hR a hF => ?_))
  obtain ⟨vb9, fvb9, evb, H9, rfl, hle9, hovb9, hofvb9, har9, hc⟩ := hR
  replace hS := hS.call hc
  obtain ⟨hfk9, rfl, hv19⟩ := acc_new (VOf.new hopen []) rfl hmk rfl hie4 har9
  replace hg := hg.mono hc.le
  replace hr := hr.mono hc.le
  replace hr2 := hr2.mono hc.le
  replace hr3 := hr3.mono hc.le
  replace hoe3 := hoe3.mono hc.le
  replace hr4 := hr4.mono hc.le
  replace hoe4 := hoe4.mono hc.le
  replace hr7 := hr7.mono hc.le
  replace hr8 := hr8.mono hc.le
  replace hova := hova.mono hc.le
  replace hofva := hofva.mono hc.le
  replace hj34 := hj34.mono hc.le
  refine hK68 _ _ _ (hS.lose (by first | exact .refl _ | exact .cons _ (.refl _) | exact .cons _ (.cons _ (.refl _)))) (fun _ h => h.forget hsub hc.le) ?_
  refine r_q (i := 7) rfl rfl hF (hS.lose (by first | exact .refl _ | exact .cons _ (.refl _) | exact .cons _ (.cons _ (.refl _)))) (q_move rfl) rfl (fun a hF => ?_)
  refine r_q (i := 8) rfl rfl hF (hS.lose (by first | exact .refl _ | exact .cons _ (.refl _) | exact .cons _ (.cons _ (.refl _)))) (q_extract (i := 0) rfl rfl) rfl (fun a hF => ?_)
  refine r_q (i := 9) rfl rfl hF (hS.lose (by first | exact .refl _ | exact .cons _ (.refl _) | exact .cons _ (.cons _ (.refl _)))) (q_extract (i := 1) rfl rfl) rfl (fun a hF => ?_)
  refine r_q (i := 10) rfl rfl hF (hS.lose (by first | exact .refl _ | exact .cons _ (.refl _) | exact .cons _ (.cons _ (.refl _)))) (q_extract (i := 2) rfl rfl) rfl (fun a hF => ?_)
  refine r_one (i := 12) (by kernel_rfl) ?_
  refine r_li rfl rfl (fun K69 hK69 => l_alloc hF hS zr82 rfl (fun a w b13 hF hS => hK69 _ _ _ (hS.lose (by first | exact .refl _ | exact .cons _ (.refl _) | exact .cons _ (.cons _ (.refl _)))) (fun _ h => h) ?_))
  refine r_one (i := 13) (by kernel_rfl) ?_
  refine r_li rfl rfl (fun K70 hK70 => l_store0A ty77 hF hS rfl rfl (i := 1) rfl rfl rfl rfl (fun a w hF hS => hK70 _ _ _ (hS.lose (by first | exact .refl _ | exact .cons _ (.refl _) | exact .cons _ (.cons _ (.refl _)))) (fun _ h => h) ?_))
  refine r_one (i := 14) (by kernel_rfl) ?_
  refine r_li rfl rfl (fun K71 hK71 => l_store0A ty82 hF hS rfl rfl (i := 0) rfl (by simp [dc_length, Hd.c_len, En.c_len, Fk.c_len, List.length_replicate, List.length_cons, List.length_nil, List.length_append]) (by simp [dc_length, Hd.c_len, En.c_len, Fk.c_len, List.length_replicate, List.length_cons, List.length_nil, List.length_append]) (Fk.c_all1 _) (fun a w hF hS => hK71 _ _ _ (hS.lose (by first | exact .refl _ | exact .cons _ (.refl _) | exact .cons _ (.cons _ (.refl _)))) (fun _ h => h) ?_))
  refine r_q (i := 15) rfl rfl hF (hS.lose (by first | exact .refl _ | exact .cons _ (.refl _) | exact .cons _ (.cons _ (.refl _)))) (q_assign rfl) rfl (fun a hF => ?_)
  refine r_done (by kernel_rfl) ?_
  exact hK34 ((b12, b13, vb9, fvb9)) _ _ _ hj34 (hF.meet ⟨rfl, rfl, rfl, trivial⟩ (by repeat first | exact Ext.remr _ _ | refine Ext.push rfl ?_ | refine Ext.rem' rfl ?_)) (St.perm (L := _ :: _ :: _) (L' := _ :: _ :: _) hS (List.Perm.swap _ _ _)) ⟨hovb9, hofvb9, hv19⟩
  refine r_li rfl rfl (fun K72 hK72 => l_alloc hF hS zr82 rfl (fun a w b14 hF hS => hK72 _ _ _ (hS.lose (by first | exact .refl _ | exact .cons _ (.refl _) | exact .cons _ (.cons _ (.refl _)))) (fun _ h => h) ?_))
  refine r_one (i := 6) (by kernel_rfl) ?_
  have hsub := hS.sub
  refine r_li rfl rfl (fun K73 hK73 => l_call en37 hF rfl rfl (Accept_c (Vw.mk id f (pubP priv).1 none 0 [] none 0 []) es4 ad4 cp4 k (by omega) _ _ hS.fz hg (VwOK.new _ _ _ _) hr4 hoe4) (fun v73 w hR a hF => ?_))
  obtain ⟨vb9, fvb9, evb, H9, rfl, hle9, hovb9, hofvb9, har9, hc⟩ := hR
  replace hS := hS.call hc
  obtain ⟨hfk9, rfl, hv19⟩ := acc_new (VOf.new hopen []) rfl hmk rfl hie4 har9
  replace hg := hg.mono hc.le
  replace hr := hr.mono hc.le
  replace hr2 := hr2.mono hc.le
  replace hr3 := hr3.mono hc.le
  replace hoe3 := hoe3.mono hc.le
  replace hr4 := hr4.mono hc.le
  replace hoe4 := hoe4.mono hc.le
  replace hr7 := hr7.mono hc.le
  replace hr8 := hr8.mono hc.le
  replace hova := hova.mono hc.le
  replace hofva := hofva.mono hc.le
  replace hj34 := hj34.mono hc.le
  refine hK73 _ _ _ (hS.lose (by first | exact .refl _ | exact .cons _ (.refl _) | exact .cons _ (.cons _ (.refl _)))) (fun _ h => h.forget hsub hc.le) ?_
  refine r_q (i := 7) rfl rfl hF (hS.lose (by first | exact .refl _ | exact .cons _ (.refl _) | exact .cons _ (.cons _ (.refl _)))) (q_move rfl) rfl (fun a hF => ?_)
  refine r_q (i := 8) rfl rfl hF (hS.lose (by first | exact .refl _ | exact .cons _ (.refl _) | exact .cons _ (.cons _ (.refl _)))) (q_extract (i := 0) rfl rfl) rfl (fun a hF => ?_)
  refine r_q (i := 9) rfl rfl hF (hS.lose (by first | exact .refl _ | exact .cons _ (.refl _) | exact .cons _ (.cons _ (.refl _)))) (q_extract (i := 1) rfl rfl) rfl (fun a hF => ?_)
  refine r_q (i := 10) rfl rfl hF (hS.lose (by first | exact .refl _ | exact .cons _ (.refl _) | exact .cons _ (.cons _ (.refl _)))) (q_extract (i := 2) rfl rfl) rfl (fun a hF => ?_)
  refine r_one (i := 13) (by kernel_rfl) ?_
  refine r_li rfl rfl (fun K74 hK74 => l_store0A ty77 hF hS rfl rfl (i := 1) rfl rfl rfl rfl (fun a w hF hS => hK74 _ _ _ (hS.lose (by first | exact .refl _ | exact .cons _ (.refl _) | exact .cons _ (.cons _ (.refl _)))) (fun _ h => h) ?_))
  refine r_one (i := 14) (by kernel_rfl) ?_
  refine r_li rfl rfl (fun K75 hK75 => l_store0A ty82 hF hS rfl rfl (i := 0) rfl (by simp [dc_length, Hd.c_len, En.c_len, Fk.c_len, List.length_replicate, List.length_cons, List.length_nil, List.length_append]) (by simp [dc_length, Hd.c_len, En.c_len, Fk.c_len, List.length_replicate, List.length_cons, List.length_nil, List.length_append]) (Fk.c_all1 _) (fun a w hF hS => hK75 _ _ _ (hS.lose (by first | exact .refl _ | exact .cons _ (.refl _) | exact .cons _ (.cons _ (.refl _)))) (fun _ h => h) ?_))
  refine r_q (i := 15) rfl rfl hF (hS.lose (by first | exact .refl _ | exact .cons _ (.refl _) | exact .cons _ (.cons _ (.refl _)))) (q_assign rfl) rfl (fun a hF => ?_)
  refine r_done (by kernel_rfl) ?_
  exact hK34 ((b12, b14, vb9, fvb9)) _ _ _ hj34 (hF.meet ⟨rfl, rfl, rfl, trivial⟩ (by repeat first | exact Ext.remr _ _ | refine Ext.push rfl ?_ | refine Ext.rem' rfl ?_)) (St.perm (L := _ :: _ :: _) (L' := _ :: _ :: _) hS (List.Perm.swap _ _ _)) ⟨hovb9, hofvb9, hv19⟩
  refine r_li rfl rfl (fun K76 hK76 => l_alloc hF hS zr82 rfl (fun a w b15 hF hS => hK76 _ _ _ (hS.lose (by first | exact .refl _ | exact .cons _ (.refl _) | exact .cons _ (.cons _ (.refl _)))) (fun _ h => h) ?_))
  refine r_two (i := 6) (j := 11) (by kernel_rfl) ?_ ?_
  have hsub := hS.sub
  refine r_li rfl rfl (fun K77 hK77 => l_call en37 hF rfl rfl (Accept_c (Vw.mk id f (pubP priv).1 none 0 [] none 0 []) es4 ad4 cp4 k (by omega) _ _ hS.fz hg (VwOK.new _ _ _ _) hr4 hoe4) (fun v77 w hR a hF => ?_))
  obtain ⟨vb9, fvb9, evb, H9, rfl, hle9, hovb9, hofvb9, har9, hc⟩ := hR
  replace hS := hS.call hc
  obtain ⟨hfk9, rfl, hv19⟩ := acc_new (VOf.new hopen []) rfl hmk rfl hie4 har9
  replace hg := hg.mono hc.le
  replace hr := hr.mono hc.le
  replace hr2 := hr2.mono hc.le
  replace hr3 := hr3.mono hc.le
  replace hoe3 := hoe3.mono hc.le
  replace hr4 := hr4.mono hc.le
  replace hoe4 := hoe4.mono hc.le
  replace hr7 := hr7.mono hc.le
  replace hr8 := hr8.mono hc.le
  replace hova := hova.mono hc.le
  replace hofva := hofva.mono hc.le
  replace hj34 := hj34.mono hc.le
  refine hK77 _ _ _ (hS.lose (by first | exact .refl _ | exact .cons _ (.refl _) | exact .cons _ (.cons _ (.refl _)))) (fun _ h => h.forget hsub hc.le) ?_
  refine r_q (i := 7) rfl rfl hF (hS.lose (by first | exact .refl _ | exact .cons _ (.refl _) | exact .cons _ (.cons _ (.refl _)))) (q_move rfl) rfl (fun a hF => ?_)
  refine r_q (i := 8) rfl rfl hF (hS.lose (by first | exact .refl _ | exact .cons _ (.refl _) | exact .cons _ (.cons _ (.refl _)))) (q_extract (i := 0) rfl rfl) rfl (fun a hF => ?_)
  refine r_q (i := 9) rfl rfl hF (hS.lose (by first | exact .refl _ | exact .cons _ (.refl _) | exact .cons _ (.cons _ (.refl _)))) (q_extract (i := 1) rfl rfl) rfl (fun a hF => ?_)
  refine r_q (i := 10) rfl rfl hF (hS.lose (by first | exact .refl _ | exact .cons _ (.refl _) | exact .cons _ (.cons _ (.refl _)))) (q_extract (i := 2) rfl rfl) rfl (fun a hF => ?_)
  refine r_one (i := 11) (by kernel_rfl) ?_
  refine r_li rfl rfl (fun K78 hK78 => l_alloc hF hS zr77 rfl (fun a w b16 hF hS => hK78 _ _ _ (hS.lose (by first | exact .refl _ | exact .cons _ (.refl _) | exact .cons _ (.cons _ (.refl _)))) (fun _ h => h) ?_))
  refine r_one (i := 13) (by kernel_rfl) ?_
  refine r_li rfl rfl (fun K79 hK79 => l_store0A ty77 hF hS rfl rfl (i := 0) rfl rfl rfl rfl (fun a w hF hS => hK79 _ _ _ (hS.lose (by first | exact .refl _ | exact .cons _ (.refl _) | exact .cons _ (.cons _ (.refl _)))) (fun _ h => h) ?_))
  refine r_one (i := 14) (by kernel_rfl) ?_
  refine r_li rfl rfl (fun K80 hK80 => l_store0A ty82 hF hS rfl rfl (i := 1) rfl (by simp [dc_length, Hd.c_len, En.c_len, Fk.c_len, List.length_replicate, List.length_cons, List.length_nil, List.length_append]) (by simp [dc_length, Hd.c_len, En.c_len, Fk.c_len, List.length_replicate, List.length_cons, List.length_nil, List.length_append]) (Fk.c_all1 _) (fun a w hF hS => hK80 _ _ _ (hS.lose (by first | exact .refl _ | exact .cons _ (.refl _) | exact .cons _ (.cons _ (.refl _)))) (fun _ h => h) ?_))
  refine r_q (i := 15) rfl rfl hF (hS.lose (by first | exact .refl _ | exact .cons _ (.refl _) | exact .cons _ (.cons _ (.refl _)))) (q_assign rfl) rfl (fun a hF => ?_)
  refine r_done (by kernel_rfl) ?_
  exact hK34 ((b16, b15, vb9, fvb9)) _ _ _ hj34 (hF.meet ⟨rfl, rfl, rfl, trivial⟩ (by repeat first | exact Ext.remr _ _ | refine Ext.push rfl ?_ | refine Ext.rem' rfl ?_)) hS ⟨hovb9, hofvb9, hv19⟩
  refine r_li rfl rfl (fun K81 hK81 => l_alloc hF hS zr77 rfl (fun a w b17 hF hS => hK81 _ _ _ (hS.lose (by first | exact .refl _ | exact .cons _ (.refl _) | exact .cons _ (.cons _ (.refl _)))) (fun _ h => h) ?_))
  refine r_one (i := 6) (by kernel_rfl) ?_
  have hsub := hS.sub
  refine r_li rfl rfl (fun K82 hK82 => l_call en37 hF rfl rfl (Accept_c (Vw.mk id f (pubP priv).1 none 0 [] none 0 []) es4 ad4 cp4 k (by omega) _ _ hS.fz hg (VwOK.new _ _ _ _) hr4 hoe4) (fun v82 w hR a hF => ?_))
  obtain ⟨vb9, fvb9, evb, H9, rfl, hle9, hovb9, hofvb9, har9, hc⟩ := hR
  replace hS := hS.call hc
  obtain ⟨hfk9, rfl, hv19⟩ := acc_new (VOf.new hopen []) rfl hmk rfl hie4 har9
  replace hg := hg.mono hc.le
  replace hr := hr.mono hc.le
  replace hr2 := hr2.mono hc.le
  replace hr3 := hr3.mono hc.le
  replace hoe3 := hoe3.mono hc.le
  replace hr4 := hr4.mono hc.le
  replace hoe4 := hoe4.mono hc.le
  replace hr7 := hr7.mono hc.le
  replace hr8 := hr8.mono hc.le
  replace hova := hova.mono hc.le
  replace hofva := hofva.mono hc.le
  replace hj34 := hj34.mono hc.le
  refine hK82 _ _ _ (hS.lose (by first | exact .refl _ | exact .cons _ (.refl _) | exact .cons _ (.cons _ (.refl _)))) (fun _ h => h.forget hsub hc.le) ?_
  refine r_q (i := 7) rfl rfl hF (hS.lose (by first | exact .refl _ | exact .cons _ (.refl _) | exact .cons _ (.cons _ (.refl _)))) (q_move rfl) rfl (fun a hF => ?_)
  refine r_q (i := 8) rfl rfl hF (hS.lose (by first | exact .refl _ | exact .cons _ (.refl _) | exact .cons _ (.cons _ (.refl _)))) (q_extract (i := 0) rfl rfl) rfl (fun a hF => ?_)
  refine r_q (i := 9) rfl rfl hF (hS.lose (by first | exact .refl _ | exact .cons _ (.refl _) | exact .cons _ (.cons _ (.refl _)))) (q_extract (i := 1) rfl rfl) rfl (fun a hF => ?_)
  refine r_q (i := 10) rfl rfl hF (hS.lose (by first | exact .refl _ | exact .cons _ (.refl _) | exact .cons _ (.cons _ (.refl _)))) (q_extract (i := 2) rfl rfl) rfl (fun a hF => ?_)
  refine r_one (i := 13) (by kernel_rfl) ?_
  refine r_li rfl rfl (fun K83 hK83 => l_store0A ty77 hF hS rfl rfl (i := 0) rfl rfl rfl rfl (fun a w hF hS => hK83 _ _ _ (hS.lose (by first | exact .refl _ | exact .cons _ (.refl _) | exact .cons _ (.cons _ (.refl _)))) (fun _ h => h) ?_))
  refine r_one (i := 14) (by kernel_rfl) ?_
  refine r_li rfl rfl (fun K84 hK84 => l_store0A ty82 hF hS rfl rfl (i := 1) rfl (by simp [dc_length, Hd.c_len, En.c_len, Fk.c_len, List.length_replicate, List.length_cons, List.length_nil, List.length_append]) (by simp [dc_length, Hd.c_len, En.c_len, Fk.c_len, List.length_replicate, List.length_cons, List.length_nil, List.length_append]) (Fk.c_all1 _) (fun a w hF hS => hK84 _ _ _ (hS.lose (by first | exact .refl _ | exact .cons _ (.refl _) | exact .cons _ (.cons _ (.refl _)))) (fun _ h => h) ?_))
  refine r_q (i := 15) rfl rfl hF (hS.lose (by first | exact .refl _ | exact .cons _ (.refl _) | exact .cons _ (.cons _ (.refl _)))) (q_assign rfl) rfl (fun a hF => ?_)
  refine r_done (by kernel_rfl) ?_
  exact hK34 ((b17, b15, vb9, fvb9)) _ _ _ hj34 (hF.meet ⟨rfl, rfl, rfl, trivial⟩ (by repeat first | exact Ext.remr _ _ | refine Ext.push rfl ?_ | refine Ext.rem' rfl ?_)) hS ⟨hovb9, hofvb9, hv19⟩
  refine r_li rfl rfl (fun K85 hK85 => l_alloc hF hS zr77 rfl (fun a w b18 hF hS => hK85 _ _ _ (hS.lose (by first | exact .refl _ | exact .cons _ (.refl _) | exact .cons _ (.cons _ (.refl _)))) (fun _ h => h) ?_))
  refine r_two (i := 3) (j := 12) (by kernel_rfl) ?_ ?_
  have hsub := hS.sub
  refine r_li rfl rfl (fun K86 hK86 => l_call en38 hF rfl rfl (VNew_c id f (pubP priv).1 _ _ hS.fz) (fun v86 w hR a hF => ?_))
  obtain ⟨rfl, hc⟩ := hR
  replace hS := hS.call0 hc
  refine hK86 _ _ _ (hS.lose (by first | exact .refl _ | exact .cons _ (.refl _) | exact .cons _ (.cons _ (.refl _)))) (fun _ h => h) ?_
  refine r_two (i := 6) (j := 12) (by kernel_rfl) ?_ ?_
  have hsub := hS.sub
  refine r_li rfl rfl (fun K87 hK87 => l_call en37 hF rfl rfl (Accept_c (Vw.mk id f (pubP priv).1 none 0 [] none 0 []) es4 ad4 cp4 k (by omega) _ _ hS.fz hg (VwOK.new _ _ _ _) hr4 hoe4) (fun v87 w hR a hF => ?_))
  obtain ⟨vb9, fvb9, evb, H9, rfl, hle9, hovb9, hofvb9, har9, hc⟩ := hR
  replace hS := hS.call hc
  obtain ⟨hfk9, rfl, hv19⟩ := acc_new (VOf.new hopen []) rfl hmk rfl hie4 har9
  replace hg := hg.mono hc.le
  replace hr := hr.mono hc.le
  replace hr2 := hr2.mono hc.le
  replace hr3 := hr3.mono hc.le
  replace hoe3 := hoe3.mono hc.le
  replace hr4 := hr4.mono hc.le
  replace hoe4 := hoe4.mono hc.le
  replace hr7 := hr7.mono hc.le
  replace hr8 := hr8.mono hc.le
  replace hova := hova.mono hc.le
  replace hofva := hofva.mono hc.le
  replace hj34 := hj34.mono hc.le
  refine hK87 _ _ _ (hS.lose (by first | exact .refl _ | exact .cons _ (.refl _) | exact .cons _ (.cons _ (.refl _)))) (fun _ h => h.forget hsub hc.le) ?_
  refine r_q (i := 7) rfl rfl hF (hS.lose (by first | exact .refl _ | exact .cons _ (.refl _) | exact .cons _ (.cons _ (.refl _)))) (q_move rfl) rfl (fun a hF => ?_)
  refine r_q (i := 8) rfl rfl hF (hS.lose (by first | exact .refl _ | exact .cons _ (.refl _) | exact .cons _ (.cons _ (.refl _)))) (q_extract (i := 0) rfl rfl) rfl (fun a hF => ?_)
  refine r_q (i := 9) rfl rfl hF (hS.lose (by first | exact .refl _ | exact .cons _ (.refl _) | exact .cons _ (.cons _ (.refl _)))) (q_extract (i := 1) rfl rfl) rfl (fun a hF => ?_)
  refine r_q (i := 10) rfl rfl hF (hS.lose (by first | exact .refl _ | exact .cons _ (.refl _) | exact .cons _ (.cons _ (.refl _)))) (q_extract (i := 2) rfl rfl) rfl (fun a hF => ?_)
  refine r_one (i := 12) (by kernel_rfl) ?_
  refine r_li rfl rfl (fun K88 hK88 => l_alloc hF hS zr82 rfl (fun a w b19 hF hS => hK88 _ _ _ (hS.lose (by first | exact .refl _ | exact .cons _ (.refl _) | exact .cons _ (.cons _ (.refl _)))) (fun _ h => h) ?_))
  refine r_one (i := 13) (by kernel_rfl) ?_
  refine r_li rfl rfl (fun K89 hK89 => l_store0A ty77 hF hS rfl rfl (i := 1) rfl rfl rfl rfl (fun a w hF hS => hK89 _ _ _ (hS.lose (by first | exact .refl _ | exact .cons _ (.refl _) | exact .cons _ (.cons _ (.refl _)))) (fun _ h => h) ?_))
  refine r_one (i := 14) (by kernel_rfl) ?_
  refine r_li rfl rfl (fun K90 hK90 => l_store0A ty82 hF hS rfl rfl (i := 0) rfl (by simp [dc_length, Hd.c_len, En.c_len, Fk.c_len, List.length_replicate, List.length_cons, List.length_nil, List.length_append]) (by simp [dc_length, Hd.c_len, En.c_len, Fk.c_len, List.length_replicate, List.length_cons, List.length_nil, List.length_append]) (Fk.c_all1 _) (fun a w hF hS => hK90 _ _ _ (hS.lose (by first | exact .refl _ | exact .cons _ (.refl _) | exact .cons _ (.cons _ (.refl _)))) (fun _ h => h) ?_))
  refine r_q (i := 15) rfl rfl hF (hS.lose (by first | exact .refl _ | exact .cons _ (.refl _) | exact .cons _ (.cons _ (.refl _)))) (q_assign rfl) rfl (fun a hF => ?_)
  refine r_done (by kernel_rfl) ?_
  exact hK34 ((b18, b19, vb9, fvb9)) _ _ _ hj34 (hF.meet ⟨rfl, rfl, rfl, trivial⟩ (by repeat first | exact Ext.remr _ _ | refine Ext.push rfl ?_ | refine Ext.rem' rfl ?_)) (St.perm (L := _ :: _ :: _) (L' := _ :: _ :: _) hS (List.Perm.swap _ _ _)) ⟨hovb9, hofvb9, hv19⟩
  refine r_li rfl rfl (fun K91 hK91 => l_alloc hF hS zr82 rfl (fun a w b20 hF hS => hK91 _ _ _ (hS.lose (by first | exact .refl _ | exact .cons _ (.refl _) | exact .cons _ (.cons _ (.refl _)))) (fun _ h => h) ?_))
  refine r_one (i := 6) (by kernel_rfl) ?_
  have hsub := hS.sub
  refine r_li rfl rfl (fun K92 hK92 => l_call en37 hF rfl rfl (Accept_c (Vw.mk id f (pubP priv).1 none 0 [] none 0 []) es4 ad4 cp4 k (by omega) _ _ hS.fz hg (VwOK.new _ _ _ _) hr4 hoe4) (fun v92 w hR a hF => ?_))
  obtain ⟨vb9, fvb9, evb, H9, rfl, hle9, hovb9, hofvb9, har9, hc⟩ := hR
  replace hS := hS.call hc
  obtain ⟨hfk9, rfl, hv19⟩ := acc_new (VOf.new hopen []) rfl hmk rfl hie4 har9
  replace hg := hg.mono hc.le
  replace hr := hr.mono hc.le
  replace hr2 := hr2.mono hc.le
  replace hr3 := hr3.mono hc.le
  replace hoe3 := hoe3.mono hc.le
  replace hr4 := hr4.mono hc.le
  replace hoe4 := hoe4.mono hc.le
  replace hr7 := hr7.mono hc.le
  replace hr8 := hr8.mono hc.le
  replace hova := hova.mono hc.le
  replace hofva := hofva.mono hc.le
  replace hj34 := hj34.mono hc.le
  refine hK92 _ _ _ (hS.lose (by first | exact .refl _ | exact .cons _ (.refl _) | exact .cons _ (.cons _ (.refl _)))) (fun _ h => h.forget hsub hc.le) ?_
  refine r_q (i := 7) rfl rfl hF (hS.lose (by first | exact .refl _ | exact .cons _ (.refl _) | exact .cons _ (.cons _ (.refl _)))) (q_move rfl) rfl (fun a hF => ?_)
  refine r_q (i := 8) rfl rfl hF (hS.lose (by first | exact .refl _ | exact .cons _ (.refl _) | exact .cons _ (.cons _ (.refl _)))) (q_extract (i := 0) rfl rfl) rfl (fun a hF => ?_)
  refine r_q (i := 9) rfl rfl hF (hS.lose (by first | exact .refl _ | exact .cons _ (.refl _) | exact .cons _ (.cons _ (.refl _)))) (q_extract (i := 1) rfl rfl) rfl (fun a hF => ?_)
  refine r_q (i := 10) rfl rfl hF (hS.lose (by first | exact .refl _ | exact .cons _ (.refl _) | exact .cons _ (.cons _ (.refl _)))) (q_extract (i := 2) rfl rfl) rfl (fun a hF => ?_)
  refine r_one (i := 13) (by kernel_rfl) ?_
  refine r_li rfl rfl (fun K93 hK93 => l_store0A ty77 hF hS rfl rfl (i := 1) rfl rfl rfl rfl (fun a w hF hS => hK93 _ _ _ (hS.lose (by first | exact .refl _ | exact .cons _ (.refl _) | exact .cons _ (.cons _ (.refl _)))) (fun _ h => h) ?_))
  refine r_one (i := 14) (by kernel_rfl) ?_
  refine r_li rfl rfl (fun K94 hK94 => l_store0A ty82 hF hS rfl rfl (i := 0) rfl (by simp [dc_length, Hd.c_len, En.c_len, Fk.c_len, List.length_replicate, List.length_cons, List.length_nil, List.length_append]) (by simp [dc_length, Hd.c_len, En.c_len, Fk.c_len, List.length_replicate, List.length_cons, List.length_nil, List.length_append]) (Fk.c_all1 _) (fun a w hF hS => hK94 _ _ _ (hS.lose (by first | exact .refl _ | exact .cons _ (.refl _) | exact .cons _ (.cons _ (.refl _)))) (fun _ h => h) ?_))
  refine r_q (i := 15) rfl rfl hF (hS.lose (by first | exact .refl _ | exact .cons _ (.refl _) | exact .cons _ (.cons _ (.refl _)))) (q_assign rfl) rfl (fun a hF => ?_)
  refine r_done (by kernel_rfl) ?_
  exact hK34 ((b18, b20, vb9, fvb9)) _ _ _ hj34 (hF.meet ⟨rfl, rfl, rfl, trivial⟩ (by repeat first | exact Ext.remr _ _ | refine Ext.push rfl ?_ | refine Ext.rem' rfl ?_)) (St.perm (L := _ :: _ :: _) (L' := _ :: _ :: _) hS (List.Perm.swap _ _ _)) ⟨hovb9, hofvb9, hv19⟩
  refine r_li rfl rfl (fun K95 hK95 => l_alloc hF hS zr82 rfl (fun a w b21 hF hS => hK95 _ _ _ (hS.lose (by first | exact .refl _ | exact .cons _ (.refl _) | exact .cons _ (.cons _ (.refl _)))) (fun _ h => h) ?_))
  refine r_one (i := 3) (by kernel_rfl) ?_
  have hsub := hS.sub
  refine r_li rfl rfl (fun K96 hK96 => l_call en38 hF rfl rfl (VNew_c id f (pubP priv).1 _ _ hS.fz) (fun v96 w hR a hF => ?_))
  obtain ⟨rfl, hc⟩ := hR
  replace hS := hS.call0 hc
  refine hK96 _ _ _ (hS.lose (by first | exact .refl _ | exact .cons _ (.refl _) | exact .cons _ (.cons _ (.refl _)))) (fun _ h => h) ?_
  refine r_one (i := 6) (by kernel_rfl) ?_
  have hsub := hS.sub
  refine r_li rfl rfl (fun K97 hK97 => l_call en37 hF rfl rfl (Accept_c (Vw.mk id f (pubP priv).1 none 0 [] none 0 []) es4 ad4 cp4 k (by omega) _ _ hS.fz hg (VwOK.new _ _ _ _) hr4 hoe4) (fun v97 w hR a hF => ?_))
  obtain ⟨vb9, fvb9, evb, H9, rfl, hle9, hovb9, hofvb9, har9, hc⟩ := hR
  replace hS := hS.call hc
  obtain ⟨hfk9, rfl, hv19⟩ := acc_new (VOf.new hopen []) rfl hmk rfl hie4 har9
  replace hg := hg.mono hc.le
  replace hr := hr.mono hc.le
  replace hr2 := hr2.mono hc.le
  replace hr3 := hr3.mono hc.le
  replace hoe3 := hoe3.mono hc.le
  replace hr4 := hr4.mono hc.le
  replace hoe4 := hoe4.mono hc.le
  replace hr7 := hr7.mono hc.le
  replace hr8 := hr8.mono hc.le
  replace hova := hova.mono hc.le
  replace hofva := hofva.mono hc.le
  replace hj34 := hj34.mono hc.le
  refine hK97 _ _ _ (hS.lose (by first | exact .refl _ | exact .cons _ (.refl _) | exact .cons _ (.cons _ (.refl _)))) (fun _ h => h.forget hsub hc.le) ?_
  refine r_q (i := 7) rfl rfl hF (hS.lose (by first | exact .refl _ | exact .cons _ (.refl _) | exact .cons _ (.cons _ (.refl _)))) (q_move rfl) rfl (fun a hF => ?_)
  refine r_q (i := 8) rfl rfl hF (hS.lose (by first | exact .refl _ | exact .cons _ (.refl _) | exact .cons _ (.cons _ (.refl _)))) (q_extract (i := 0) rfl rfl) rfl (fun a hF => ?_)
  refine r_q (i := 9) rfl rfl hF (hS.lose (by first | exact .refl _ | exact .cons _ (.refl _) | exact .cons _ (.cons _ (.refl _)))) (q_extract (i := 1) rfl rfl) rfl (fun a hF => ?_)
  refine r_q (i := 10) rfl rfl hF (hS.lose (by first | exact .refl _ | exact .cons _ (.refl _) | exact .cons _ (.cons _ (.refl _)))) (q_extract (i := 2) rfl rfl) rfl (fun a hF => ?_)
  refine r_one (i := 13) (by kernel_rfl) ?_
  refine r_li rfl rfl (fun K98 hK98 => l_store0A ty77 hF hS rfl rfl (i := 1) rfl rfl rfl rfl (fun a w hF hS => hK98 _ _ _ (hS.lose (by first | exact .refl _ | exact .cons _ (.refl _) | exact .cons _ (.cons _ (.refl _)))) (fun _ h => h) ?_))
  refine r_one (i := 14) (by kernel_rfl) ?_
  refine r_li rfl rfl (fun K99 hK99 => l_store0A ty82 hF hS rfl rfl (i := 0) rfl (by simp [dc_length, Hd.c_len, En.c_len, Fk.c_len, List.length_replicate, List.length_cons, List.length_nil, List.length_append]) (by simp [dc_length, Hd.c_len, En.c_len, Fk.c_len, List.length_replicate, List.length_cons, List.length_nil, List.length_append]) (Fk.c_all1 _) (fun a w hF hS => hK99 _ _ _ (hS.lose (by first | exact .refl _ | exact .cons _ (.refl _) | exact .cons _ (.cons _ (.refl _)))) (fun _ h => h) ?_))
  refine r_q (i := 15) rfl rfl hF (hS.lose (by first | exact .refl _ | exact .cons _ (.refl _) | exact .cons _ (.cons _ (.refl _)))) (q_assign rfl) rfl (fun a hF => ?_)
  refine r_done (by kernel_rfl) ?_
  exact hK34 ((b18, b21, vb9, fvb9)) _ _ _ hj34 (hF.meet ⟨rfl, rfl, rfl, trivial⟩ (by repeat first | exact Ext.remr _ _ | refine Ext.push rfl ?_ | refine Ext.rem' rfl ?_)) (St.perm (L := _ :: _ :: _) (L' := _ :: _ :: _) hS (List.Perm.swap _ _ _)) ⟨hovb9, hofvb9, hv19⟩
  refine r_li rfl rfl (fun K100 hK100 => l_alloc hF hS zr82 rfl (fun a w b22 hF hS => hK100 _ _ _ (hS.lose (by first | exact .refl _ | exact .cons _ (.refl _) | exact .cons _ (.cons _ (.refl _)))) (fun _ h => h) ?_))
  refine r_two (i := 3) (j := 11) (by kernel_rfl) ?_ ?_
  have hsub := hS.sub
  refine r_li rfl rfl (fun K101 hK101 => l_call en38 hF rfl rfl (VNew_c id f (pubP priv).1 _ _ hS.fz) (fun v101 w hR a hF => ?_))
  obtain ⟨rfl, hc⟩ := hR
  replace hS := hS.call0 hc
  refine hK101 _ _ _ (hS.lose (by first | exact .refl _ | exact .cons _ (.refl _) | exact .cons _ (.cons _ (.refl _)))) (fun _ h => h) ?_
  refine r_two (i := 6) (j := 11) (by kernel_rfl) ?_ ?_
  have hsub := hS.sub
  refine r_li rfl rfl (fun K102 hK102 => l_call en37 hF rfl rfl (Accept_c (Vw.mk id f (pubP priv).1 none 0 [] none 0 []) es4 ad4 cp4 k (by omega) _ _ hS.fz hg (VwOK.new _ _ _ _) hr4 hoe4) (fun v102 w hR a hF => ?_))
  obtain ⟨vb9, fvb9, evb, H9, rfl, hle9, hovb9, hofvb9, har9, hc⟩ := hR
  replace hS := hS.call hc
  obtain ⟨hfk9, rfl, hv19⟩ := acc_new (VOf.new hopen []) rfl hmk rfl hie4 har9
  replace hg := hg.mono hc.le
  replace hr := hr.mono hc.le
  replace hr2 := hr2.mono hc.le
  replace hr3 := hr3.mono hc.le
  replace hoe3 := hoe3.mono hc.le
  replace hr4 := hr4.mono hc.le
  replace hoe4 := hoe4.mono hc.le
  replace hr7 := hr7.mono hc.le
  replace hr8 := hr8.mono hc.le
  replace hova := hova.mono hc.le
  replace hofva := hofva.mono hc.le
  replace hj34 := hj34.mono hc.le
  refine hK102 _ _ _ (hS.lose (by first | exact .refl _ | exact .cons _ (.refl _) | exact .cons _ (.cons _ (.refl _)))) (fun _ h => h.forget hsub hc.le) ?_
  refine r_q (i := 7) rfl rfl hF (hS.lose (by first | exact .refl _ | exact .cons _ (.refl _) | exact .cons _ (.cons _ (.refl _)))) (q_move rfl) rfl (fun a hF => ?_)
  refine r_q (i := 8) rfl rfl hF (hS.lose (by first | exact .refl _ | exact .cons _ (.refl _) | exact .cons _ (.cons _ (.refl _)))) (q_extract (i := 0) rfl rfl) rfl (fun a hF => ?_)
  refine r_q (i := 9) rfl rfl hF (hS.lose (by first | exact .refl _ | exact .cons _ (.refl _) | exact .cons _ (.cons _ (.refl _)))) (q_extract (i := 1) rfl rfl) rfl (fun a hF => ?_)
  refine r_q (i := 10) rfl rfl hF (hS.lose (by first | exact .refl _ | exact .cons _ (.refl _) | exact .cons _ (.cons _ (.refl _)))) (q_extract (i := 2) rfl rfl) rfl (fun a hF => ?_)
  refine r_one (i := 11) (by kernel_rfl) ?_
  refine r_li rfl rfl (fun K103 hK103 => l_alloc hF hS zr77 rfl (fun a w b23 hF hS => hK103 _ _ _ (hS.lose (by first | exact .refl _ | exact .cons _ (.refl _) | exact .cons _ (.cons _ (.refl _)))) (fun _ h => h) ?_))
  refine r_one (i := 13) (by kernel_rfl) ?_
  refine r_li rfl rfl (fun K104 hK104 => l_store0A ty77 hF hS rfl rfl (i := 0) rfl rfl rfl rfl (fun a w hF hS => hK104 _ _ _ (hS.lose (by first | exact .refl _ | exact .cons _ (.refl _) | exact .cons _ (.cons _ (.refl _)))) (fun _ h => h) ?_))
  refine r_one (i := 14) (by kernel_rfl) ?_
  refine r_li rfl rfl (fun K105 hK105 => l_store0A ty82 hF hS rfl rfl (i := 1) rfl (by simp [dc_length, Hd.c_len, En.c_len, Fk.c_len, List.length_replicate, List.length_cons, List.length_nil, List.length_append]) (by simp [dc_length, Hd.c_len, En.c_len, Fk.c_len, List.length_replicate, List.length_cons, List.length_nil, List.length_append]) (Fk.c_all1 _) (fun a w hF hS => hK105 _ _ _ (hS.lose (by first | exact .refl _ | exact .cons _ (.refl _) | exact .cons _ (.cons _ (.refl _)))) (fun _ h => h) ?_))
  refine r_q (i := 15) rfl rfl hF (hS.lose (by first | exact .refl _ | exact .cons _ (.refl _) | exact .cons _ (.cons _ (.refl _)))) (q_assign rfl) rfl (fun a hF => ?_)
  refine r_done (by kernel_rfl) ?_
  exact hK34 ((b23, b22, vb9, fvb9)) _ _ _ hj34 (hF.meet ⟨rfl, rfl, rfl, trivial⟩ (by repeat first | exact Ext.remr _ _ | refine Ext.push rfl ?_ | refine Ext.rem' rfl ?_)) hS ⟨hovb9, hofvb9, hv19⟩
  refine r_li rfl rfl (fun K106 hK106 => l_alloc hF hS zr77 rfl (fun a w b24 hF hS => hK106 _ _ _ (hS.lose (by first | exact .refl _ | exact .cons _ (.refl _) | exact .cons _ (.cons _ (.refl _)))) (fun _ h => h) ?_))
  refine r_one (i := 6) (by kernel_rfl) ?_
  have hsub := hS.sub
  refine r_li rfl rfl (fun K107 hK107 => l_call en37 hF rfl rfl (Accept_c (Vw.mk id f (pubP priv).1 none 0 [] none 0 []) es4 ad4 cp4 k (by omega) _ _ hS.fz hg (VwOK.new _ _ _ _) hr4 hoe4) (fun v107 w hR a hF => ?_))
  obtain ⟨vb9, fvb9, evb, H9, rfl, hle9, hovb9, hofvb9, har9, hc⟩ := hR
  replace hS := hS.call hc
  obtain ⟨hfk9, rfl, hv19⟩ := acc_new (VOf.new hopen []) rfl hmk rfl hie4 har9
  replace hg := hg.mono hc.le
  replace hr := hr.mono hc.le
  replace hr2 := hr2.mono hc.le
  replace hr3 := hr3.mono hc.le
  replace hoe3 := hoe3.mono hc.le
  replace hr4 := hr4.mono hc.le
  replace hoe4 := hoe4.mono hc.le
  replace hr7 := hr7.mono hc.le
  replace hr8 := hr8.mono hc.le
  replace hova := hova.mono hc.le
  replace hofva := hofva.mono hc.le
  replace hj34 := hj34.mono hc.le
  refine hK107 _ _ _ (hS.lose (by first | exact .refl _ | exact .cons _ (.refl _) | exact .cons _ (.cons _ (.refl _)))) (fun _ h => h.forget hsub hc.le) ?_
  refine r_q (i := 7) rfl rfl hF (hS.lose (by first | exact .refl _ | exact .cons _ (.refl _) | exact .cons _ (.cons _ (.refl _)))) (q_move rfl) rfl (fun a hF => ?_)
  refine r_q (i := 8) rfl rfl hF (hS.lose (by first | exact .refl _ | exact .cons _ (.refl _) | exact .cons _ (.cons _ (.refl _)))) (q_extract (i := 0) rfl rfl) rfl (fun a hF => ?_)
  refine r_q (i := 9) rfl rfl hF (hS.lose (by first | exact .refl _ | exact .cons _ (.refl _) | exact .cons _ (.cons _ (.refl _)))) (q_extract (i := 1) rfl rfl) rfl (fun a hF => ?_)
  refine r_q (i := 10) rfl rfl hF (hS.lose (by first | exact .refl _ | exact .cons _ (.refl _) | exact .cons _ (.cons _ (.refl _)))) (q_extract (i := 2) rfl rfl) rfl (fun a hF => ?_)
  refine r_one (i := 13) (by kernel_rfl) ?_
  refine r_li rfl rfl (fun K108 hK108 => l_store0A ty77 hF hS rfl rfl (i := 0) rfl rfl rfl rfl (fun a w hF hS => hK108 _ _ _ (hS.lose (by first | exact .refl _ | exact .cons _ (.refl _) | exact .cons _ (.cons _ (.refl _)))) (fun _ h => h) ?_))
  refine r_one (i := 14) (by kernel_rfl) ?_
  refine r_li rfl rfl (fun K109 hK109 => l_store0A ty82 hF hS rfl rfl (i := 1) rfl (by simp [dc_length, Hd.c_len, En.c_len, Fk.c_len, List.length_replicate, List.length_cons, List.length_nil, List.length_append]) (by simp [dc_length, Hd.c_len, En.c_len, Fk.c_len, List.length_replicate, List.length_cons, List.length_nil, List.length_append]) (Fk.c_all1 _) (fun a w hF hS => hK109 _ _ _ (hS.lose (by first | exact .refl _ | exact .cons _ (.refl _) | exact .cons _ (.cons _ (.refl _)))) (fun _ h => h) ?_))
  refine r_q (i := 15) rfl rfl hF (hS.lose (by first | exact .refl _ | exact .cons _ (.refl _) | exact .cons _ (.cons _ (.refl _)))) (q_assign rfl) rfl (fun a hF => ?_)
  refine r_done (by kernel_rfl) ?_
  exact hK34 ((b24, b22, vb9, fvb9)) _ _ _ hj34 (hF.meet ⟨rfl, rfl, rfl, trivial⟩ (by repeat first | exact Ext.remr _ _ | refine Ext.push rfl ?_ | refine Ext.rem' rfl ?_)) hS ⟨hovb9, hofvb9, hv19⟩
  refine r_li rfl rfl (fun K110 hK110 => l_alloc hF hS zr77 rfl (fun a w b25 hF hS => hK110 _ _ _ (hS.lose (by first | exact .refl _ | exact .cons _ (.refl _) | exact .cons _ (.cons _ (.refl _)))) (fun _ h => h) ?_))
  refine r_one (i := 3) (by kernel_rfl) ?_
  have hsub := hS.sub
  refine r_li rfl rfl (fun K111 hK111 => l_call en38 hF rfl rfl (VNew_c id f (pubP priv).1 _ _ hS.fz) (fun v111 w hR a hF => ?_))
  obtain ⟨rfl, hc⟩ := hR
  replace hS := hS.call0 hc
  refine hK111 _ _ _ (hS.lose (by first | exact .refl _ | exact .cons _ (.refl _) | exact .cons _ (.cons _ (.refl _)))) (fun _ h => h) ?_
  refine r_one (i := 6) (by kernel_rfl) ?_
  have hsub := hS.sub
  refine r_li rfl rfl (fun K112 hK112 => l_call en37 hF rfl rfl (Accept_c (Vw.mk id f (pubP priv).1 none 0 [] none 0 []) es4 ad4 cp4 k (by omega) _ _ hS.fz hg (VwOK.new _ _ _ _) hr4 hoe4) (fun v112 w hR a hF => ?_))
  obtain ⟨vb9, fvb9, evb, H9, rfl, hle9, hovb9, hofvb9, har9, hc⟩ := hR
  replace hS := hS.call hc
  obtain ⟨hfk9, rfl, hv19⟩ := acc_new (VOf.new hopen []) rfl hmk rfl hie4 har9
  replace hg := hg.mono hc.le
  replace hr := hr.mono hc.le
  replace hr2 := hr2.mono hc.le
  replace hr3 := hr3.mono hc.le
  replace hoe3 := hoe3.mono hc.le
  replace hr4 := hr4.mono hc.le
  replace hoe4 := hoe4.mono hc.le
  replace hr7 := hr7.mono hc.le
  replace hr8 := hr8.mono hc.le
  replace hova := hova.mono hc.le
  replace hofva := hofva.mono hc.le
  replace hj34 := hj34.mono hc.le
  refine hK112 _ _ _ (hS.lose (by first | exact .refl _ | exact .cons _ (.refl _) | exact .cons _ (.cons _ (.refl _)))) (fun _ h => h.forget hsub hc.le) ?_
  refine r_q (i := 7) rfl rfl hF (hS.lose (by first | exact .refl _ | exact .cons _ (.refl _) | exact .cons _ (.cons _ (.refl _)))) (q_move rfl) rfl (fun a hF => ?_)
  refine r_q (i := 8) rfl rfl hF (hS.lose (by first | exact .refl _ | exact .cons _ (.refl _) | exact .cons _ (.cons _ (.refl _)))) (q_extract (i := 0) rfl rfl) rfl (fun a hF => ?_)
  refine r_q (i := 9) rfl rfl hF (hS.lose (by first | exact .refl _ | exact .cons _ (.refl _) | exact .cons _ (.cons _ (.refl _)))) (q_extract (i := 1) rfl rfl) rfl (fun a hF => ?_)
  refine r_q (i := 10) rfl rfl hF (hS.lose (by first | exact .refl _ | exact .cons _ (.refl _) | exact .cons _ (.cons _ (.refl _)))) (q_extract (i := 2) rfl rfl) rfl (fun a hF => ?_)
  refine r_one (i := 13) (by kernel_rfl) ?_
  refine r_li rfl rfl (fun K113 hK113 => l_store0A ty77 hF hS rfl rfl (i := 0) rfl rfl rfl rfl (fun a w hF hS => hK113 _ _ _ (hS.lose (by first | exact .refl _ | exact .cons _ (.refl _) | exact .cons _ (.cons _ (.refl _)))) (fun _ h => h) ?_))
  refine r_one (i := 14) (by kernel_rfl) ?_
  refine r_li rfl rfl (fun K114 hK114 => l_store0A ty82 hF hS rfl rfl (i := 1) rfl (by simp [dc_length, Hd.c_len, En.c_len, Fk.c_len, List.length_replicate, List.length_cons, List.length_nil, List.length_append]) (by simp [dc_length, Hd.c_len, En.c_len, Fk.c_len, List.length_replicate, List.length_cons, List.length_nil, List.length_append]) (Fk.c_all1 _) (fun a w hF hS => hK114 _ _ _ (hS.lose (by first | exact .refl _ | exact .cons _ (.refl _) | exact .cons _ (.cons _ (.refl _)))) (fun _ h => h) ?_))
  refine r_q (i := 15) rfl rfl hF (hS.lose (by first | exact .refl _ | exact .cons _ (.refl _) | exact .cons _ (.cons _ (.refl _)))) (q_assign rfl) rfl (fun a hF => ?_)
  refine r_done (by kernel_rfl) ?_
  exact hK34 ((b25, b22, vb9, fvb9)) _ _ _ hj34 (hF.meet ⟨rfl, rfl, rfl, trivial⟩ (by repeat first | exact Ext.remr _ _ | refine Ext.push rfl ?_ | refine Ext.rem' rfl ?_)) hS ⟨hovb9, hofvb9, hv19⟩
  intro K33 hK33
  have hj33 := hS.rl
  refine r_start (fun L => L) [] mo hS (fun w hS => ?_)
  refine r_q (i := 0) rfl rfl hF (hS.lose (by first | exact .refl _ | exact .cons _ (.refl _) | exact .cons _ (.cons _ (.refl _)))) (q_move rfl) rfl (fun a hF => ?_)
  refine r_q (i := 1) rfl rfl hF (hS.lose (by first | exact .refl _ | exact .cons _ (.refl _) | exact .cons _ (.cons _ (.refl _)))) (q_move rfl) rfl (fun a hF => ?_)
  refine r_q (i := 2) rfl rfl hF (hS.lose (by first | exact .refl _ | exact .cons _ (.refl _) | exact .cons _ (.cons _ (.refl _)))) (q_move rfl) rfl (fun a hF => ?_)
  refine r_q (i := 4) rfl rfl hF (hS.lose (by first | exact .refl _ | exact .cons _ (.refl _) | exact .cons _ (.cons _ (.refl _)))) (q_move rfl) rfl (fun a hF => ?_)
  refine r_q (i := 5) rfl rfl hF (hS.lose (by first | exact .refl _ | exact .cons _ (.refl _) | exact .cons _ (.cons _ (.refl _)))) (q_load0 ty39 rfl (i := 1) rfl (by simp [dc_length, Hd.c_len, En.c_len, Fk.c_len, List.length_replicate, List.length_cons, List.length_nil, List.length_append]) rfl) rfl (fun a hF => ?_)
  refine r_three (i := 3) (j := 11) (l := 12) (by kernel_rfl) ?_ ?_ ?_
  have hsub := hS.sub
  refine r_li rfl rfl (fun K115 hK115 => l_call en38 hF rfl rfl (VNew_c id f (pubP priv).1 _ _ hS.fz) (fun v115 w hR a hF => ?_))
  obtain ⟨rfl, hc⟩ := hR
  replace hS := hS.call0 hc
  refine hK115 _ _ _ (hS.lose (by first | exact .refl _ | exact .cons _ (.refl _) | exact .cons _ (.cons _ (.refl _)))) (fun _ h => h) ?_
  refine r_three (i := 6) (j := 11) (l := 12) (by kernel_rfl) ?_ ?_ ?_
  have hsub := hS.sub
  refine r_li rfl rfl (fun K116 hK116 => l_call en37 hF rfl rfl (Accept_c (Vw.mk id f (pubP priv).1 none 0 [] none 0 []) es3 ad3 cp3 h (by omega) _ _ hS.fz hg (VwOK.new _ _ _ _) hr3 hoe3) (fun v116 w hR a hF => ?_))
  obtain ⟨va9, fva9, eva, H9, rfl, hle9, hova9, hofva9, har9, hc⟩ := hR
  replace hS := hS.call hc
  obtain ⟨hfk9, rfl, hv19⟩ := acc_new (VOf.new hopen []) rfl hmh rfl hie3 har9
  replace hg := hg.mono hc.le
  replace hr := hr.mono hc.le
  replace hr2 := hr2.mono hc.le
  replace hr3 := hr3.mono hc.le
  replace hoe3 := hoe3.mono hc.le
  replace hr4 := hr4.mono hc.le
  replace hoe4 := hoe4.mono hc.le
  replace hr7 := hr7.mono hc.le
  replace hr8 := hr8.mono hc.le
  replace hj33 := hj33.mono hc.le
  refine hK116 _ _ _ (hS.lose (by first | exact .refl _ | exact .cons _ (.refl _) | exact .cons _ (.cons _ (.refl _)))) (fun _ h => h.forget hsub hc.le) ?_
  refine r_q (i := 7) rfl rfl hF (hS.lose (by first | exact .refl _ | exact .cons _ (.refl _) | exact .cons _ (.cons _ (.refl _)))) (q_move rfl) rfl (fun a hF => ?_)
  refine r_q (i := 8) rfl rfl hF (hS.lose (by first | exact .refl _ | exact .cons _ (.refl _) | exact .cons _ (.cons _ (.refl _)))) (q_extract (i := 0) rfl rfl) rfl (fun a hF => ?_)
  refine r_q (i := 9) rfl rfl hF (hS.lose (by first | exact .refl _ | exact .cons _ (.refl _) | exact .cons _ (.cons _ (.refl _)))) (q_extract (i := 1) rfl rfl) rfl (fun a hF => ?_)
  refine r_q (i := 10) rfl rfl hF (hS.lose (by first | exact .refl _ | exact .cons _ (.refl _) | exact .cons _ (.cons _ (.refl _)))) (q_extract (i := 2) rfl rfl) rfl (fun a hF => ?_)
  refine r_two (i := 11) (j := 12) (by kernel_rfl) ?_ ?_
  refine r_li rfl rfl (fun K117 hK117 => l_alloc hF hS zr77 rfl (fun a w b26 hF hS => hK117 _ _ _ (hS.lose (by first | exact .refl _ | exact .cons _ (.refl _) | exact .cons _ (.cons _ (.refl _)))) (fun _ h => h) ?_))
  refine r_one (i := 12) (by kernel_rfl) ?_
  refine r_li rfl rfl (fun K118 hK118 => l_alloc hF hS zr82 rfl (fun a w b27 hF hS => hK118 _ _ _ (hS.lose (by first | exact .refl _ | exact .cons _ (.refl _) | exact .cons _ (.cons _ (.refl _)))) (fun _ h => h) ?_))
  refine r_one (i := 13) (by kernel_rfl) ?_
  refine r_li rfl rfl (fun K119 hK119 => l_store0A ty77 hF hS rfl rfl (i := 1) rfl rfl rfl rfl (fun a w hF hS => hK119 _ _ _ (hS.lose (by first | exact .refl _ | exact .cons _ (.refl _) | exact .cons _ (.cons _ (.refl _)))) (fun _ h => h) ?_))
  refine r_one (i := 14) (by kernel_rfl) ?_
  refine r_li rfl rfl (fun K120 hK120 => l_store0A ty82 hF hS rfl rfl (i := 0) rfl (by simp [dc_length, Hd.c_len, En.c_len, Fk.c_len, List.length_replicate, List.length_cons, List.length_nil, List.length_append]) (by simp [dc_length, Hd.c_len, En.c_len, Fk.c_len, List.length_replicate, List.length_cons, List.length_nil, List.length_append]) (Fk.c_all1 _) (fun a w hF hS => hK120 _ _ _ (hS.lose (by first | exact .refl _ | exact .cons _ (.refl _) | exact .cons _ (.cons _ (.refl _)))) (fun _ h => h) ?_))
  refine r_q (i := 15) rfl rfl hF (hS.lose (by first | exact .refl _ | exact .cons _ (.refl _) | exact .cons _ (.cons _ (.refl _)))) (q_assign rfl) rfl (fun a hF => ?_)
  refine r_done (by kernel_rfl) ?_
  exact hK33 ((b26, b27, va9, fva9)) _ _ _ hj33 (hF.meet ⟨rfl, rfl, rfl, trivial⟩ (by repeat first | exact Ext.remr _ _ | refine Ext.push rfl ?_ | refine Ext.rem' rfl ?_)) (St.perm (L := _ :: _ :: _) (L' := _ :: _ :: _) hS (List.Perm.swap _ _ _)) ⟨hova9, hofva9, hv19⟩
  refine r_li rfl rfl (fun K121 hK121 => l_alloc hF hS zr82 rfl (fun a w b28 hF hS => hK121 _ _ _ (hS.lose (by first | exact .refl _ | exact .cons _ (.refl _) | exact .cons _ (.cons _ (.refl _)))) (fun _ h => h) ?_))
  refine r_one (i := 11) (by kernel_rfl) ?_
  refine r_li rfl rfl (fun K122 hK122 => l_alloc hF hS zr77 rfl (fun a w b29 hF hS => hK122 _ _ _ (hS.lose (by first | exact .refl _ | exact .cons _ (.refl _) | exact .cons _ (.cons _ (.refl _)))) (fun _ h => h) ?_))
  refine r_one (i := 13) (by kernel_rfl) ?_
  refine r_li rfl rfl (fun K123 hK123 => l_store0A ty77 hF hS rfl rfl (i := 0) rfl rfl rfl rfl (fun a w hF hS => hK123 _ _ _ (hS.lose (by first | exact .refl _ | exact .cons _ (.refl _) | exact .cons _ (.cons _ (.refl _)))) (fun _ h => h) ?_))
  refine r_one (i := 14) (by kernel_rfl) ?_
  refine r_li rfl rfl (fun K124 hK124 => l_store0A ty82 hF hS rfl rfl (i := 1) rfl (by simp [dc_length, Hd.c_len, En.c_len, Fk.c_len, List.length_replicate, List.length_cons, List.length_nil, List.length_append]) (by simp [dc_length, Hd.c_len, En.c_len, Fk.c_len, List.length_replicate, List.length_cons, List.length_nil, List.length_append]) (Fk.c_all1 _) (fun a w hF hS => hK124 _ _ _ (hS.lose (by first | exact .refl _ | exact .cons _ (.refl _) | exact .cons _ (.cons _ (.refl _)))) (fun _ h => h) ?_))
  refine r_q (i := 15) rfl rfl hF (hS.lose (by first | exact .refl _ | exact .cons _ (.refl _) | exact .cons _ (.cons _ (.refl _)))) (q_assign rfl) rfl (fun a hF => ?_)
  refine r_done (by kernel_rfl) ?_
  exact hK33 ((b29, b28, va9, fva9)) _ _ _ hj33 (hF.meet ⟨rfl, rfl, rfl, trivial⟩ (by repeat first | exact Ext.remr _ _ | refine Ext.push rfl ?_ | refine Ext.rem' rfl ?_)) hS ⟨hova9, hofva9, hv19⟩
  refine r_li rfl rfl (fun K125 hK125 => l_alloc hF hS zr77 rfl (fun a w b30 hF hS => hK125 _ _ _ (hS.lose (by first | exact .refl _ | exact .cons _ (.refl _) | exact .cons _ (.cons _ (.refl _)))) (fun _ h => h) ?_))
  refine r_two (i := 6) (j := 12) (by kernel_rfl) ?_ ?_
  have hsub := hS.sub
  refine r_li rfl rfl (fun K126 hK126 => l_call en37 hF rfl rfl (Accept_c (Vw.mk id f (pubP priv).1 none 0 [] none 0 []) es3 ad3 cp3 h (by omega) _ _ hS.fz hg (VwOK.new _ _ _ _) hr3 hoe3) (fun v126 w hR a hF => ?_))
  obtain ⟨va9, fva9, eva, H9, rfl, hle9, hova9, hofva9, har9, hc⟩ := hR
  replace hS := hS.call hc
  obtain ⟨hfk9, rfl, hv19⟩ := acc_new (VOf.new hopen []) rfl hmh rfl hie3 har9
  replace hg := hg.mono hc.le
  replace hr := hr.mono hc.le
  replace hr2 := hr2.mono hc.le
  replace hr3 := hr3.mono hc.le
  replace hoe3 := hoe3.mono hc.le
  replace hr4 := hr4.mono hc.le
  replace hoe4 := hoe4.mono hc.le
  replace hr7 := hr7.mono hc.le
  replace hr8 := hr8.mono hc.le
  replace hj33 := hj33.mono hc.le
  refine hK126 _ _ _ (hS.lose (by first | exact .refl _ | exact .cons _ (.refl _) | exact .cons _ (.cons _ (.refl _)))) (fun _ h => h.forget hsub hc.le) ?_
  refine r_q (i := 7) rfl rfl hF (hS.lose (by first | exact .refl _ | exact .cons _ (.refl _) | exact .cons _ (.cons _ (.refl _)))) (q_move rfl) rfl (fun a hF => ?_)
  refine r_q (i := 8) rfl rfl hF (hS.lose (by first | exact .refl _ | exact .cons _ (.refl _) | exact .cons _ (.cons _ (.refl _)))) (q_extract (i := 0) rfl rfl) rfl (fun a hF => ?_)
  refine r_q (i := 9) rfl rfl hF (hS.lose (by first | exact .refl _ | exact .cons _ (.refl _) | exact .cons _ (.cons _ (.refl _)))) (q_extract (i := 1) rfl rfl) rfl (fun a hF => ?_)
  refine r_q (i := 10) rfl rfl hF (hS.lose (by first | exact .refl _ | exact .cons _ (.refl _) | exact .cons _ (.cons _ (.refl _)))) (q_extract (i := 2) rfl rfl) rfl (fun a hF => ?_)
  refine r_one (i := 12) (by kernel_rfl) ?_
  refine r_li rfl rfl (fun K127 hK127 => l_alloc hF hS zr82 rfl (fun a w b31 hF hS => hK127 _ _ _ (hS.lose (by first | exact .refl _ | exact .cons _ (.refl _) | exact .cons _ (.cons _ (.refl _)))) (fun _ h => h) ?_))
  refine r_one (i := 13) (by kernel_rfl) ?_
  refine r_li rfl rfl (fun K128 hK128 => l_store0A ty77 hF hS rfl rfl (i := 1) rfl rfl rfl rfl (fun a w hF hS => hK128 _ _ _ (hS.lose (by first | exact .refl _ | exact .cons _ (.refl _) | exact .cons _ (.cons _ (.refl _)))) (fun _ h => h) ?_))
  refine r_one (i := 14) (by kernel_rfl) ?_
  refine r_li rfl rfl (fun K129 hK129 => l_store0A ty82 hF hS rfl rfl (i := 0) rfl (by simp [dc_length, Hd.c_len, En.c_len, Fk.c_len, List.length_replicate, List.length_cons, List.length_nil, List.length_append]) (by simp [dc_length, Hd.c_len, En.c_len, Fk.c_len, List.length_replicate, List.length_cons, List.length_nil, List.length_append]) (Fk.c_all1 _) (fun a w hF hS => hK129 _ _ _ (hS.lose (by first | exact .refl _ | exact .cons _ (.refl _) | exact .cons _ (.cons _ (.refl _)))) (fun _ h => h) ?_))
  refine r_q (i := 15) rfl rfl hF (hS.lose (by first | exact .refl _ | exact .cons _ (.refl _) | exact .cons _ (.cons _ (.refl _)))) (q_assign rfl) rfl (fun a hF => ?_)
  refine r_done (by kernel_rfl) ?_
  exact hK33 ((b30, b31, va9, fva9)) _ _ _ hj33 (hF.meet ⟨rfl, rfl, rfl, trivial⟩ (by repeat first | exact Ext.remr _ _ | refine Ext.push rfl ?_ | refine Ext.rem' rfl ?_)) (St.perm (L := _ :: _ :: _) (L' := _ :: _ :: _) hS (List.Perm.swap _ _ _)) ⟨hova9, hofva9, hv19⟩
  refine r_li rfl rfl (fun K130 hK130 => l_alloc hF hS zr82 rfl (fun a w b32 hF hS => hK130 _ _ _ (hS.lose (by first | exact .refl _ | exact .cons _ (.refl _) | exact .cons _ (.cons _ (.refl _)))) (fun _ h => h) ?_))
  refine r_one (i := 6) (by kernel_rfl) ?_
  have hsub := hS.sub
  refine r_li rfl rfl (fun K131 hK131 => l_call en37 hF rfl rfl (Accept_c (Vw.mk id f (pubP priv).1 none 0 [] none 0 []) es3 ad3 cp3 h (by omega) _ _ hS.fz hg (VwOK.new _ _ _ _) hr3 hoe3) (fun v131 w hR a hF => ?_))
  obtain ⟨va9, fva9, eva, H9, rfl, hle9, hova9, hofva9, har9, hc⟩ := hR
  replace hS := hS.call hc
  obtain ⟨hfk9, rfl, hv19⟩ := acc_new (VOf.new hopen []) rfl hmh rfl hie3 har9
  replace hg := hg.mono hc.le
  replace hr := hr.mono hc.le
  replace hr2 := hr2.mono hc.le
  replace hr3 := hr3.mono hc.le
  replace hoe3 := hoe3.mono hc.le
  replace hr4 := hr4.mono hc.le
  replace hoe4 := hoe4.mono hc.le
  replace hr7 := hr7.mono hc.le
  replace hr8 := hr8.mono hc.le
  replace hj33 := hj33.mono hc.le
  refine hK131 _ _ _ (hS.lose (by first | exact .refl _ | exact .cons _ (.refl _) | exact .cons _ (.cons _ (.refl _)))) (fun _ h => h.forget hsub hc.le) ?_
  refine r_q (i := 7) rfl rfl hF (hS.lose (by first | exact .refl _ | exact .cons _ (.refl _) | exact .cons _ (.cons _ (.refl _)))) (q_move rfl) rfl (fun a hF => ?_)
  refine r_q (i := 8) rfl rfl hF (hS.lose (by first | exact .refl _ | exact .cons _ (.refl _) | exact .cons _ (.cons _ (.refl _)))) (q_extract (i := 0) rfl rfl) rfl (fun a hF => ?_)
  refine r_q (i := 9) rfl rfl hF (hS.lose (by first | exact .refl _ | exact .cons _ (.refl _) | exact .cons _ (.cons _ (.refl _)))) (q_extract (i := 1) rfl rfl) rfl (fun a hF => ?_)
  refine r_q (i := 10) rfl rfl hF (hS.lose (by first | exact .refl _ | exact .cons _ (.refl _) | exact .cons _ (.cons _ (.refl _)))) (q_extract (i := 2) rfl rfl) rfl (fun a hF => ?_)
  refine r_one (i := 13) (by kernel_rfl) ?_
  refine r_li rfl rfl (fun K132 hK132 => l_store0A ty77 hF hS rfl rfl (i := 1) rfl rfl rfl rfl (fun a w hF hS => hK132 _ _ _ (hS.lose (by first | exact .refl _ | exact .cons _ (.refl _) | exact .cons _ (.cons _ (.refl _)))) (fun _ h => h) ?_))
  refine r_one (i := 14) (by kernel_rfl) ?_
  refine r_li rfl rfl (fun K133 hK133 => l_store0A ty82 hF hS rfl rfl (i := 0) rfl (by simp [dc_length, Hd.c_len, En.c_len, Fk.c_len, List.length_replicate, List.length_cons, List.length_nil, List.length_append]) (by simp [dc_length, Hd.c_len, En.c_len, Fk.c_len, List.length_replicate, List.length_cons, List.length_nil, List.length_append]) (Fk.c_all1 _) (fun a w hF hS => hK133 _ _ _ (hS.lose (by first | exact .refl _ | exact .cons _ (.refl _) | exact .cons _ (.cons _ (.refl _)))) (fun _ h => h) ?_))
  refine r_q (i := 15) rfl rfl hF (hS.lose (by first | exact .refl _ | exact .cons _ (.refl _) | exact .cons _ (.cons _ (.refl _)))) (q_assign rfl) rfl (fun a hF => ?_)
  refine r_done (by kernel_rfl) ?_
  exact hK33 ((b30, b32, va9, fva9)) _ _ _ hj33 (hF.meet ⟨rfl, rfl, rfl, trivial⟩ (by repeat first | exact Ext.remr _ _ | refine Ext.push rfl ?_ | refine Ext.rem' rfl ?_)) (St.perm (L := _ :: _ :: _) (L' := _ :: _ :: _) hS (List.Perm.swap _ _ _)) ⟨hova9, hofva9, hv19⟩
  refine r_li rfl rfl (fun K134 hK134 => l_alloc hF hS zr82 rfl (fun a w b33 hF hS => hK134 _ _ _ (hS.lose (by first | exact .refl _ | exact .cons _ (.refl _) | exact .cons _ (.cons _ (.refl _)))) (fun _ h => h) ?_))
  refine r_two (i := 6) (j := 11) (by kernel_rfl) ?_ ?_
  have hsub := hS.sub
  refine r_li rfl rfl (fun K135 hK135 => l_call en37 hF rfl rfl (Accept_c (Vw.mk id f (pubP priv).1 none 0 [] none 0 []) es3 ad3 cp3 h (by omega) _ _ hS.fz hg (VwOK.new _ _ _ _) hr3 hoe3) (fun v135 w hR a hF => ?_))
  obtain ⟨va9, fva9, eva, H9, rfl, hle9, hova9, hofva9, har9, hc⟩ := hR
  replace hS := hS.call hc
  obtain ⟨hfk9, rfl, hv19⟩ := acc_new (VOf.new hopen []) rfl hmh rfl hie3 har9
  replace hg := hg.mono hc.le
  replace hr := hr.mono hc.le
  replace hr2 := hr2.mono hc.le
  replace hr3 := hr3.mono hc.le
  replace hoe3 := hoe3.mono hc.le
  replace hr4 := hr4.mono hc.le
  replace hoe4 := hoe4.mono hc.le
  replace hr7 := hr7.mono hc.le
  replace hr8 := hr8.mono hc.le
  replace hj33 := hj33.mono hc.le
  refine hK135 _ _ _ (hS.lose (by first | exact .refl _ | exact .cons _ (.refl _) | exact .cons _ (.cons _ (.refl _)))) (fun _ h => h.forget hsub hc.le) ?_
  refine r_q (i := 7) rfl rfl hF (hS.lose (by first | exact .refl _ | exact .cons _ (.refl _) | exact .cons _ (.cons _ (.refl _)))) (q_move rfl) rfl (fun a hF => ?_)
  refine r_q (i := 8) rfl rfl hF (hS.lose (by first | exact .refl _ | exact .cons _ (.refl _) | exact .cons _ (.cons _ (.refl _)))) (q_extract (i := 0) rfl rfl) rfl (fun a hF => ?_)
  refine r_q (i := 9) rfl rfl hF (hS.lose (by first | exact .refl _ | exact .cons _ (.refl _) | exact .cons _ (.cons _ (.refl _)))) (q_extract (i := 1) rfl rfl) rfl (fun a hF => ?_)
  refine r_q (i := 10) rfl rfl hF (hS.lose (by first | exact .refl _ | exact .cons _ (.refl _) | exact .cons _ (.cons _ (.refl _)))) (q_extract (i := 2) rfl rfl) rfl (fun a hF => ?_)
  refine r_one (i := 11) (by kernel_rfl) ?_
  refine r_li rfl rfl (fun K136 hK136 => l_alloc hF hS zr77 rfl (fun a w b34 hF hS => hK136 _ _ _ (hS.lose (by first | exact .refl _ | exact .cons _ (.refl _) | exact .cons _ (.cons _ (.refl _)))) (fun _ h => h) ?_))
  refine r_one (i := 13) (by kernel_rfl) ?_
  refine r_li rfl rfl (fun K137 hK137 => l_store0A ty77 hF hS rfl rfl (i := 0) rfl rfl rfl rfl (fun a w hF hS => hK137 _ _ _ (hS.lose (by first | exact .refl _ | exact .cons _ (.refl _) | exact .cons _ (.cons _ (.refl _)))) (fun _ h => h) ?_))
  refine r_one (i := 14) (by kernel_rfl) ?_
  refine r_li rfl rfl (fun K138 hK138 => l_store0A ty82 hF hS rfl rfl (i := 1) rfl (by simp [dc_length, Hd.c_len, En.c_len, Fk.c_len, List.length_replicate, List.length_cons, List.length_nil, List.length_append]) (by simp [dc_length, Hd.c_len, En.c_len, Fk.c_len, List.length_replicate, List.length_cons, List.length_nil, List.length_append]) (Fk.c_all1 _) (fun a w hF hS => hK138 _ _ _ (hS.lose (by first | exact .refl _ | exact .cons _ (.refl _) | exact .cons _ (.cons _ (.refl _)))) (fun _ h => h) ?_))
  refine r_q (i := 15) rfl rfl hF (hS.lose (by first | exact .refl _ | exact .cons _ (.refl _) | exact .cons _ (.cons _ (.refl _)))) (q_assign rfl) rfl (fun a hF => ?_)
  refine r_done (by kernel_rfl) ?_
  exact hK33 ((b34, b33, va9, fva9)) _ _ _ hj33 (hF.meet ⟨rfl, rfl, rfl, trivial⟩ (by repeat first | exact Ext.remr _ _ | refine Ext.push rfl ?_ | refine Ext.rem' rfl ?_)) hS ⟨hova9, hofva9, hv19⟩
  refine r_li rfl rfl (fun K139 hK139 => l_alloc hF hS zr77 rfl (fun a w b35 hF hS => hK139 _ _ _ (hS.lose (by first | exact .refl _ | exact .cons _ (.refl _) | exact .cons _ (.cons _ (.refl _)))) (fun _ h => h) ?_))
  refine r_one (i := 6) (by kernel_rfl) ?_
  have hsub := hS.sub
  refine r_li rfl rfl (fun K140 hK140 => l_call en37 hF rfl rfl (Accept_c (Vw.mk id f (pubP priv).1 none 0 [] none 0 []) es3 ad3 cp3 h (by omega) _ _ hS.fz hg (VwOK.new _ _ _ _) hr3 hoe3) (fun v140 w hR a hF => ?_))
  obtain ⟨va9, fva9, eva, H9, rfl, hle9, hova9, hofva9, har9, hc⟩ := hR
  replace hS := hS.call hc
  obtain ⟨hfk9, rfl, hv19⟩ := acc_new (VOf.new hopen []) rfl hmh rfl hie3 har9
  replace hg := hg.mono hc.le
  replace hr := hr.mono hc.le
  replace hr2 := hr2.mono hc.le
  replace hr3 := hr3.mono hc.le
  replace hoe3 := hoe3.mono hc.le
  replace hr4 := hr4.mono hc.le
  replace hoe4 := hoe4.mono hc.le
  replace hr7 := hr7.mono hc.le
  replace hr8 := hr8.mono hc.le
  replace hj33 := hj33.mono hc.le
  refine hK140 _ _ _ (hS.lose (by first | exact .refl _ | exact .cons _ (.refl _) | exact .cons _ (.cons _ (.refl _)))) (fun _ h => h.forget hsub hc.le) ?_
  refine r_q (i := 7) rfl rfl hF (hS.lose (by first | exact .refl _ | exact .cons _ (.refl _) | exact .cons _ (.cons _ (.refl _)))) (q_move rfl) rfl (fun a hF => ?_)
  refine r_q (i := 8) rfl rfl hF (hS.lose (by first | exact .refl _ | exact .cons _ (.refl _) | exact .cons _ (.cons _ (.refl _)))) (q_extract (i := 0) rfl rfl) rfl (fun a hF => ?_)
  refine r_q (i := 9) rfl rfl hF (hS.lose (by first | exact .refl _ | exact .cons _ (.refl _) | exact .cons _ (.cons _ (.refl _)))) (q_extract (i := 1) rfl rfl) rfl (fun a hF => ?_)
  refine r_q (i := 10) rfl rfl hF (hS.lose (by first | exact .refl _ | exact .cons _ (.refl _) | exact .cons _ (.cons _ (.refl _)))) (q_extract (i := 2) rfl rfl) rfl (fun a hF => ?_)
  refine r_one (i := 13) (by kernel_rfl) ?_
  refine r_li rfl rfl (fun K141 hK141 => l_store0A ty77 hF hS rfl rfl (i := 0) rfl rfl rfl rfl (fun a w hF hS => hK141 _ _ _ (hS.lose (by first | exact .refl _ | exact .cons _ (.refl _) | exact .cons _ (.cons _ (.refl _)))) (fun _ h => h) ?_))
  refine r_one (i := 14) (by kernel_rfl) ?_
  refine r_li rfl rfl (fun K142 hK142 => l_store0A ty82 hF hS rfl rfl (i := 1) rfl (by simp [dc_length, Hd.c_len, En.c_len, Fk.c_len, List.length_replicate, List.length_cons, List.length_nil, List.length_append]) (by simp [dc_length, Hd.c_len, En.c_len, Fk.c_len, List.length_replicate, List.length_cons, List.length_nil, List.length_append]) (Fk.c_all1 _) (fun a w hF hS => hK142 _ _ _ (hS.lose (by first | exact .refl _ | exact .cons _ (.refl _) | exact .cons _ (.cons _ (.refl _)))) (fun _ h => h) ?_))
  refine r_q (i := 15) rfl rfl hF (hS.lose (by first | exact .refl _ | exact .cons _ (.refl _) | exact .cons _ (.cons _ (.refl _)))) (q_assign rfl) rfl (fun a hF => ?_)
  refine r_done (by kernel_rfl) ?_
  exact hK33 ((b35, b33, va9, fva9)) _ _ _ hj33 (hF.meet ⟨rfl, rfl, rfl, trivial⟩ (by repeat first | exact Ext.remr _ _ | refine Ext.push rfl ?_ | refine Ext.rem' rfl ?_)) hS ⟨hova9, hofva9, hv19⟩
  refine r_li rfl rfl (fun K143 hK143 => l_alloc hF hS zr77 rfl (fun a w b36 hF hS => hK143 _ _ _ (hS.lose (by first | exact .refl _ | exact .cons _ (.refl _) | exact .cons _ (.cons _ (.refl _)))) (fun _ h => h) ?_))
  refine r_two (i := 3) (j := 12) (by kernel_rfl) ?_ ?_
  have hsub := hS.sub
  refine r_li rfl rfl (fun K144 hK144 => l_call en38 hF rfl rfl (VNew_c id f (pubP priv).1 _ _ hS.fz) (fun v144 w hR a hF => ?_))
  obtain ⟨rfl, hc⟩ := hR
  replace hS := hS.call0 hc
  refine hK144 _ _ _ (hS.lose (by first | exact .refl _ | exact .cons _ (.refl _) | exact .cons _ (.cons _ (.refl _)))) (fun _ h => h) ?_
  refine r_two (i := 6) (j := 12) (by kernel_rfl) ?_ ?_
  have hsub := hS.sub
  refine r_li rfl rfl (fun K145 hK145 => l_call en37 hF rfl rfl (Accept_c (Vw.mk id f (pubP priv).1 none 0 [] none 0 []) es3 ad3 cp3 h (by omega) _ _ hS.fz hg (VwOK.new _ _ _ _) hr3 hoe3) (fun v145 w hR a hF => ?_))
  obtain ⟨va9, fva9, eva, H9, rfl, hle9, hova9, hofva9, har9, hc⟩ := hR
  replace hS := hS.call hc
  obtain ⟨hfk9, rfl, hv19⟩ := acc_new (VOf.new hopen []) rfl hmh rfl hie3 har9
  replace hg := hg.mono hc.le
  replace hr := hr.mono hc.le
  replace hr2 := hr2.mono hc.le
  replace hr3 := hr3.mono hc.le
  replace hoe3 := hoe3.mono hc.le
  replace hr4 := hr4.mono hc.le
  replace hoe4 := hoe4.mono hc.le
  replace hr7 := hr7.mono hc.le
  replace hr8 := hr8.mono hc.le
  replace hj33 := hj33.mono hc.le
  refine hK145 _ _ _ (hS.lose (by first | exact .refl _ | exact .cons _ (.refl _) | exact .cons _ (.cons _ (.refl _)))) (fun _ h => h.forget hsub hc.le) ?_
  refine r_q (i := 7) rfl rfl hF (hS.lose (by first | exact .refl _ | exact .cons _ (.refl _) | exact .cons _ (.cons _ (.refl _)))) (q_move rfl) rfl (fun a hF => ?_)
  refine r_q (i := 8) rfl rfl hF (hS.lose (by first | exact .refl _ | exact .cons _ (.refl _) | exact .cons _ (.cons _ (.refl _)))) (q_extract (i := 0) rfl rfl) rfl (fun a hF => ?_)
  refine r_q (i := 9) rfl rfl hF (hS.lose (by first | exact .refl _ | exact .cons _ (.refl _) | exact .cons _ (.cons _ (.refl _)))) (q_extract (i := 1) rfl rfl) rfl (fun a hF => ?_)
  refine r_q (i := 10) rfl rfl hF (hS.lose (by first | exact .refl _ | exact .cons _ (.refl _) | exact .cons _ (.cons _ (.refl _)))) (q_extract (i := 2) rfl rfl) rfl (fun a hF => ?_)
  refine r_one (i := 12) (by kernel_rfl) ?_
  refine r_li rfl rfl (fun K146 hK146 => l_alloc hF hS zr82 rfl (fun a w b37 hF hS => hK146 _ _ _ (hS.lose (by first | exact .refl _ | exact .cons _ (.refl _) | exact .cons _ (.cons _ (.refl _)))) (fun _ h => h) ?_))
  refine r_one (i := 13) (by kernel_rfl) ?_
  refine r_li rfl rfl (fun K147 hK147 => l_store0A ty77 hF hS rfl rfl (i := 1) rfl rfl rfl rfl (fun a w hF hS => hK147 _ _ _ (hS.lose (by first | exact .refl _ | exact .cons _ (.refl _) | exact .cons _ (.cons _ (.refl _)))) (fun _ h => h) ?_))
  refine r_one (i := 14) (by kernel_rfl) ?_
  refine r_li rfl rfl (fun K148 hK148 => l_store0A ty82 hF hS rfl rfl (i := 0) rfl (by simp [dc_length, Hd.c_len, En.c_len, Fk.c_len, List.length_replicate, List.length_cons, List.length_nil, List.length_append]) (by simp [dc_length, Hd.c_len, En.c_len, Fk.c_len, List.length_replicate, List.length_cons, List.length_nil, List.length_append]) (Fk.c_all1 _) (fun a w hF hS => hK148 _ _ _ (hS.lose (by first | exact .refl _ | exact .cons _ (.refl _) | exact .cons _ (.cons _ (.refl _)))) (fun _ h => h) ?_))
  refine r_q (i := 15) rfl rfl hF (hS.lose (by first | exact .refl _ | exact .cons _ (.refl _) | exact .cons _ (.cons _ (.refl _)))) (q_assign rfl) rfl (fun a hF => ?_)
  refine r_done (by kernel_rfl) ?_
  exact hK33 ((b36, b37, va9, fva9)) _ _ _ hj33 (hF.meet ⟨rfl, rfl, rfl, trivial⟩ (by repeat first | exact Ext.remr _ _ | refine Ext.push rfl ?_ | refine Ext.rem' rfl ?_)) (St.perm (L := _ :: _ :: _) (L' := _ :: _ :: _) hS (List.Perm.swap _ _ _)) ⟨hova9, hofva9, hv19⟩
  refine r_li rfl rfl (fun K149 hK149 => l_alloc hF hS zr82 rfl (fun a w b38 hF hS => hK149 _ _ _ (hS.lose (by first | exact .refl _ | exact .cons _ (.refl _) | exact .cons _ (.cons _ (.refl _)))) (fun _ h => h) ?_))
  refine r_one (i := 6) (by kernel_rfl) ?_
  have hsub := hS.sub
  refine r_li rfl rfl (fun K150 hK150 => l_call en37 hF rfl rfl (Accept_c (Vw.mk id f (pubP priv).1 none 0 [] none 0 []) es3 ad3 cp3 h (by omega) _ _ hS.fz hg (VwOK.new _ _ _ _) hr3 hoe3) (fun v150 w hR a hF => ?_))
  obtain ⟨va9, fva9, eva, H9, rfl, hle9, hova9, hofva9, har9, hc⟩ := hR
  replace hS := hS.call hc
  obtain ⟨hfk9, rfl, hv19⟩ := acc_new (VOf.new hopen []) rfl hmh rfl hie3 har9
  replace hg := hg.mono hc.le
  replace hr := hr.mono hc.le
  replace hr2 := hr2.mono hc.le
  replace hr3 := hr3.mono hc.le
  replace hoe3 := hoe3.mono hc.le
  replace hr4 := hr4.mono hc.le
  replace hoe4 := hoe4.mono hc.le
  replace hr7 := hr7.mono hc.le
  replace hr8 := hr8.mono hc.le
  replace hj33 := hj33.mono hc.le
  refine hK150 _ _ _ (hS.lose (by first | exact .refl _ | exact .cons _ (.refl _) | exact .cons _ (.cons _ (.refl _)))) (fun _ h => h.forget hsub hc.le) ?_
  refine r_q (i := 7) rfl rfl hF (hS.lose (by first | exact .refl _ | exact .cons _ (.refl _) | exact .cons _ (.cons _ (.refl _)))) (q_move rfl) rfl (fun a hF => ?_)
  refine r_q (i := 8) rfl rfl hF (hS.lose (by first | exact .refl _ | exact .cons _ (.refl _) | exact .cons _ (.cons _ (.refl _)))) (q_extract (i := 0) rfl rfl) rfl (fun a hF => ?_)
  refine r_q (i := 9) rfl rfl hF (hS.lose (by first | exact .refl _ | exact .cons _ (.refl _) | exact .cons _ (.cons _ (.refl _)))) (q_extract (i := 1) rfl rfl) rfl (fun a hF => ?_)
  refine r_q (i := 10) rfl rfl hF (hS.lose (by first | exact .refl _ | exact .cons _ (.refl _) | exact .cons _ (.cons _ (.refl _)))) (q_extract (i := 2) rfl rfl) rfl (fun a hF => ?_)
  refine r_one (i := 13) (by kernel_rfl) ?_
  refine r_li rfl rfl (fun K151 hK151 => l_store0A ty77 hF hS rfl rfl (i := 1) rfl rfl rfl rfl (fun a w hF hS => hK151 _ _ _ (hS.lose (by first | exact .refl _ | exact .cons _ (.refl _) | exact .cons _ (.cons _ (.refl _)))) (fun _ h => h) ?_))
  refine r_one (i := 14) (by kernel_rfl) ?_
  refine r_li rfl rfl (fun K152 hK152 => l_store0A ty82 hF hS rfl rfl (i := 0) rfl (by simp [dc_length, Hd.c_len, En.c_len, Fk.c_len, List.length_replicate, List.length_cons, List.length_nil, List.length_append]) (by simp [dc_length, Hd.c_len, En.c_len, Fk.c_len, List.length_replicate, List.length_cons, List.length_nil, List.length_append]) (Fk.c_all1 _) (fun a w hF hS => hK152 _ _ _ (hS.lose (by first | exact .refl _ | exact .cons _ (.refl _) | exact .cons _ (.cons _ (.refl _)))) (fun _ h => h) ?_))
  refine r_q (i := 15) rfl rfl hF (hS.lose (by first | exact .refl _ | exact .cons _ (.refl _) | exact .cons _ (.cons _ (.refl _)))) (q_assign rfl) rfl (fun a hF => ?_)
  refine r_done (by kernel_rfl) ?_
  exact hK33 ((b36, b38, va9, fva9)) _ _ _ hj33 (hF.meet ⟨rfl, rfl, rfl, trivial⟩ (by repeat first | exact Ext.remr _ _ | refine Ext.push rfl ?_ | refine Ext.rem' rfl ?_)) (St.perm (L := _ :: _ :: _) (L' := _ :: _ :: _) hS (List.Perm.swap _ _ _)) ⟨hova9, hofva9, hv19⟩
  refine r_li rfl rfl (fun K153 hK153 => l_alloc hF hS zr82 rfl (fun a w b39 hF hS => hK153 _ _ _ (hS.lose (by first | exact .refl _ | exact .cons _ (.refl _) | exact .cons _ (.cons _ (.refl _)))) (fun _ h => h) ?_))
  refine r_one (i := 3) (by kernel_rfl) ?_
  have hsub := hS.sub
  refine r_li rfl rfl (fun K154 hK154 => l_call en38 hF rfl rfl (VNew_c id f (pubP priv).1 _ _ hS.fz) (fun v154 w hR a hF => ?_))
  obtain ⟨rfl, hc⟩ := hR
  replace hS := hS.call0 hc
  refine hK154 _ _ _ (hS.lose (by first | exact .refl _ | exact .cons _ (.refl _) | exact .cons _ (.cons _ (.refl _)))) (fun _ h => h) ?_
  refine r_one (i := 6) (by kernel_rfl) ?_
  have hsub := hS.sub
  refine r_li rfl rfl (fun K155 hK155 => l_call en37 hF rfl rfl (Accept_c (Vw.mk id f (pubP priv).1 none 0 [] none 0 []) es3 ad3 cp3 h (by omega) _ _ hS.fz hg (VwOK.new _ _ _ _) hr3 hoe3) (fun v155 w hR a hF => ?_))
  obtain ⟨va9, fva9, eva, H9, rfl, hle9, hova9, hofva9, har9, hc⟩ := hR
  replace hS := hS.call hc
  obtain ⟨hfk9, rfl, hv19⟩ := acc_new (VOf.new hopen []) rfl hmh rfl hie3 har9
  replace hg := hg.mono hc.le
  replace hr := hr.mono hc.le
  replace hr2 := hr2.mono hc.le
  replace hr3 := hr3.mono hc.le
  replace hoe3 := hoe3.mono hc.le
  replace hr4 := hr4.mono hc.le
  replace hoe4 := hoe4.mono hc.le
  replace hr7 := hr7.mono hc.le
  replace hr8 := hr8.mono hc.le
  replace hj33 := hj33.mono hc.le
  refine hK155 _ _ _ (hS.lose (by first | exact .refl _ | exact .cons _ (.refl _) | exact .cons _ (.cons _ (.refl _)))) (fun _ h => h.forget hsub hc.le) ?_
  refine r_q (i := 7) rfl rfl hF (hS.lose (by first | exact .refl _ | exact .cons _ (.refl _) | exact .cons _ (.cons _ (.refl _)))) (q_move rfl) rfl (fun a hF => ?_)
  refine r_q (i := 8) rfl rfl hF (hS.lose (by first | exact .refl _ | exact .cons _ (.refl _) | exact .cons _ (.cons _ (.refl _)))) (q_extract (i := 0) rfl rfl) rfl (fun a hF => ?_)
  refine r_q (i := 9) rfl rfl hF (hS.lose (by first | exact .refl _ | exact .cons _ (.refl _) | exact .cons _ (.cons _ (.refl _)))) (q_extract (i := 1) rfl rfl) rfl (fun a hF => ?_)
  refine r_q (i := 10) rfl rfl hF (hS.lose (by first | exact .refl _ | exact .cons _ (.refl _) | exact .cons _ (.cons _ (.refl _)))) (q_extract (i := 2) rfl rfl) rfl (fun a hF => ?_)
  refine r_one (i := 13) (by kernel_rfl) ?_
  refine r_li rfl rfl (fun K156 hK156 => l_store0A ty77 hF hS rfl rfl (i := 1) rfl rfl rfl rfl (fun a w hF hS => hK156 _ _ _ (hS.lose (by first | exact .refl _ | exact .cons _ (.refl _) | exact .cons _ (.cons _ (.refl _)))) (fun _ h => h) ?_))
  refine r_one (i := 14) (by kernel_rfl) ?_
  refine r_li rfl rfl (fun K157 hK157 => l_store0A ty82 hF hS rfl rfl (i := 0) rfl (by simp [dc_length, Hd.c_len, En.c_len, Fk.c_len, List.length_replicate, List.length_cons, List.length_nil, List.length_append]) (by simp [dc_length, Hd.c_len, En.c_len, Fk.c_len, List.length_replicate, List.length_cons, List.length_nil, List.length_append]) (Fk.c_all1 _) (fun a w hF hS => hK157 _ _ _ (hS.lose (by first | exact .refl _ | exact .cons _ (.refl _) | exact .cons _ (.cons _ (.refl _)))) (fun _ h => h) ?_))
  refine r_q (i := 15) rfl rfl hF (hS.lose (by first | exact .refl _ | exact .cons _ (.refl _) | exact .cons _ (.cons _ (.refl _)))) (q_assign rfl) rfl (fun a hF => ?_)
  refine r_done (by kernel_rfl) ?_
  exact hK33 ((b36, b39, va9, fva9)) _ _ _ hj33 (hF.meet ⟨rfl, rfl, rfl, trivial⟩ (by repeat first | exact Ext.remr _ _ | refine Ext.push rfl ?_ | refine Ext.rem' rfl ?_)) (St.perm (L := _ :: _ :: _) (L' := _ :: _ :: _) hS (List.Perm.swap _ _ _)) ⟨hova9, hofva9, hv19⟩
  refine r_li rfl rfl (fun K158 hK158 => l_alloc hF hS zr82 rfl (fun a w b40 hF hS => hK158 _ _ _ (hS.lose (by first | exact .refl _ | exact .cons _ (.refl _) | exact .cons _ (.cons _ (.refl _)))) (fun _ h => h) ?_))
  refine r_two (i := 3) (j := 11) (by kernel_rfl) ?_ ?_
  have hsub := hS.sub
  refine r_li rfl rfl (fun K159 hK159 => l_call en38 hF rfl rfl (VNew_c id f (pubP priv).1 _ _ hS.fz) (fun v159 w hR a hF => ?_))
  obtain ⟨rfl, hc⟩ := hR
  replace hS := hS.call0 hc
  refine hK159 _ _ _ (hS.lose (by first | exact .refl _ | exact .cons _ (.refl _) | exact .cons _ (.cons _ (.refl _)))) (fun _ h => h) ?_
  refine r_two (i := 6) (j := 11) (by kernel_rfl) ?_ ?_
  have hsub := hS.sub
  refine r_li rfl rfl (fun K160 hK160 => l_call en37 hF rfl rfl (Accept_c (Vw.mk id f (pubP priv).1 none 0 [] none 0 []) es3 ad3 cp3 h (by omega) _ _ hS.fz hg (VwOK.new _ _ _ _) hr3 hoe3) (fun v160 w hR a hF => ?_))
  obtain ⟨va9, fva9, eva, H9, rfl, hle9, hova9, hofva9, har9, hc⟩ := hR
  replace hS := hS.call hc
  obtain ⟨hfk9, rfl, hv19⟩ := acc_new (VOf.new hopen []) rfl hmh rfl hie3 har9
  replace hg := hg.mono hc.le
  replace hr := hr.mono hc.le
  replace hr2 := hr2.mono hc.le
  replace hr3 := hr3.mono hc.le
  replace hoe3 := hoe3.mono hc.le
  replace hr4 := hr4.mono hc.le
  replace hoe4 := hoe4.mono hc.le
  replace hr7 := hr7.mono hc.le
  replace hr8 := hr8.mono hc.le
  replace hj33 := hj33.mono hc.le
  refine hK160 _ _ _ (hS.lose (by first | exact .refl _ | exact .cons _ (.refl _) | exact .cons _ (.cons _ (.refl _)))) (fun _ h => h.forget hsub hc.le) ?_
  refine r_q (i := 7) rfl rfl hF (hS.lose (by first | exact .refl _ | exact .cons _ (.refl _) | exact .cons _ (.cons _ (.refl _)))) (q_move rfl) rfl (fun a hF => ?_)
  refine r_q (i := 8) rfl rfl hF (hS.lose (by first | exact .refl _ | exact .cons _ (.refl _) | exact .cons _ (.cons _ (.refl _)))) (q_extract (i := 0) rfl rfl) rfl (fun a hF => ?_)
  refine r_q (i := 9) rfl rfl hF (hS.lose (by first | exact .refl _ | exact .cons _ (.refl _) | exact .cons _ (.cons _ (.refl _)))) (q_extract (i := 1) rfl rfl) rfl (fun a hF => ?_)
  refine r_q (i := 10) rfl rfl hF (hS.lose (by first | exact .refl _ | exact .cons _ (.refl _) | exact .cons _ (.cons _ (.refl _)))) (q_extract (i := 2) rfl rfl) rfl (fun a hF => ?_)
  refine r_one (i := 11) (by kernel_rfl) ?_
  refine r_li rfl rfl (fun K161 hK161 => l_alloc hF hS zr77 rfl (fun a w b41 hF hS => hK161 _ _ _ (hS.lose (by first | exact .refl _ | exact .cons _ (.refl _) | exact .cons _ (.cons _ (.refl _)))) (fun _ h => h) ?_))
  refine r_one (i := 13) (by kernel_rfl) ?_
  refine r_li rfl rfl (fun K162 hK162 => l_store0A ty77 hF hS rfl rfl (i := 0) rfl rfl rfl rfl (fun a w hF hS => hK162 _ _ _ (hS.lose (by first | exact .refl _ | exact .cons _ (.refl _) | exact .cons _ (.cons _ (.refl _)))) (fun _ h => h) ?_))
  refine r_one (i := 14) (by kernel_rfl) ?_
  refine r_li rfl rfl (fun K163 hK163 => l_store0A ty82 hF hS rfl rfl (i := 1) rfl (by simp [dc_length, Hd.c_len, En.c_len, Fk.c_len, List.length_replicate, List.length_cons, List.length_nil, List.length_append]) (by simp [dc_length, Hd.c_len, En.c_len, Fk.c_len, List.length_replicate, List.length_cons, List.length_nil, List.length_append]) (Fk.c_all1 _) (fun a w hF hS => hK163 _ _ _ (hS.lose (by first | exact .refl _ | exact .cons _ (.refl _) | exact .cons _ (.cons _ (.refl _)))) (fun _ h => h) ?_))
  refine r_q (i := 15) rfl rfl hF (hS.lose (by first | exact .refl _ | exact .cons _ (.refl _) | exact .cons _ (.cons _ (.refl _)))) (q_assign rfl) rfl (fun a hF => ?_)
  refine r_done (by kernel_rfl) ?_
  exact hK33 ((b41, b40, va9, fva9)) _ _ _ hj33 (hF.meet ⟨rfl, rfl, rfl, trivial⟩ (by repeat first | exact Ext.remr _ _ | refine Ext.push rfl ?_ | refine Ext.rem' rfl ?_)) hS ⟨hova9, hofva9, hv19⟩
  refine r_li rfl rfl (fun K164 hK164 => l_alloc hF hS zr77 rfl (fun a w b42 hF hS => hK164 _ _ _ (hS.lose (by first | exact .refl _ | exact .cons _ (.refl _) | exact .cons _ (.cons _ (.refl _)))) (fun _ h => h) ?_))
  refine r_one (i := 6) (by kernel_rfl) ?_
  have hsub := hS.sub
  refine r_li rfl rfl (fun K165 hK165 => l_call en37 hF rfl rfl (Accept_c (Vw.mk id f (pubP priv).1 none 0 [] none 0 []) es3 ad3 cp3 h (by omega) _ _ hS.fz hg (VwOK.new _ _ _ _) hr3 hoe3) (fun v165 w hR a hF => ?_))
  obtain ⟨va9, fva9, eva, H9, rfl, hle9, hova9, hofva9, har9, hc⟩ := hR
  replace hS := hS.call hc
  obtain ⟨hfk9, rfl, hv19⟩ := acc_new (VOf.new hopen []) rfl hmh rfl hie3 har9
  replace hg := hg.mono hc.le
  replace hr := hr.mono hc.le
  replace hr2 := hr2.mono hc.le
  replace hr3 := hr3.mono hc.le
  replace hoe3 := hoe3.mono hc.le
  replace hr4 := hr4.mono hc.le
  replace hoe4 := hoe4.mono hc.le
  replace hr7 := hr7.mono hc.le
  replace hr8 := hr8.mono hc.le
  replace hj33 := hj33.mono hc.le
  refine hK165 _ _ _ (hS.lose (by first | exact .refl _ | exact .cons _ (.refl _) | exact .cons _ (.cons _ (.refl _)))) (fun _ h => h.forget hsub hc.le) ?_
  refine r_q (i := 7) rfl rfl hF (hS.lose (by first | exact .refl _ | exact .cons _ (.refl _) | exact .cons _ (.cons _ (.refl _)))) (q_move rfl) rfl (fun a hF => ?_)
  refine r_q (i := 8) rfl rfl hF (hS.lose (by first | exact .refl _ | exact .cons _ (.refl _) | exact .cons _ (.cons _ (.refl _)))) (q_extract (i := 0) rfl rfl) rfl (fun a hF => ?_)
  refine r_q (i := 9) rfl rfl hF (hS.lose (by first | exact .refl _ | exact .cons _ (.refl _) | exact .cons _ (.cons _ (.refl _)))) (q_extract (i := 1) rfl rfl) rfl (fun a hF => ?_)
  refine r_q (i := 10) rfl rfl hF (hS.lose (by first | exact .refl _ | exact .cons _ (.refl _) | exact .cons _ (.cons _ (.refl _)))) (q_extract (i := 2) rfl rfl) rfl (fun a hF => ?_)
  refine r_one (i := 13) (by kernel_rfl) ?_
  refine r_li rfl rfl (fun K166 hK166 => l_store0A ty77 hF hS rfl rfl (i := 0) rfl rfl rfl rfl (fun a w hF hS => hK166 _ _ _ (hS.lose (by first | exact .refl _ | exact .cons _ (.refl _) | exact .cons _ (.cons _ (.refl _)))) (fun _ h => h) ?_))
  refine r_one (i := 14) (by kernel_rfl) ?_
  refine r_li rfl rfl (fun K167 hK167 => l_store0A ty82 hF hS rfl rfl (i := 1) rfl (by simp [dc_length, Hd.c_len, En.c_len, Fk.c_len, List.length_replicate, List.length_cons, List.length_nil, List.length_append]) (by simp [dc_length, Hd.c_len, En.c_len, Fk.c_len, List.length_replicate, List.length_cons, List.length_nil, List.length_append]) (Fk.c_all1 _) (fun a w hF hS => hK167 _ _ _ (hS.lose (by first | exact .refl _ | exact .cons _ (.refl _) | exact .cons _ (.cons _ (.refl _)))) (fun _ h => h) ?_))
  refine r_q (i := 15) rfl rfl hF (hS.lose (by first | exact .refl _ | exact .cons _ (.refl _) | exact .cons _ (.cons _ (.refl _)))) (q_assign rfl) rfl (fun a hF => ?_)
  refine r_done (by kernel_rfl) ?_
  exact hK33 ((b42, b40, va9, fva9)) _ _ _ hj33 (hF.meet ⟨rfl, rfl, rfl, trivial⟩ (by repeat first | exact Ext.remr _ _ | refine Ext.push rfl ?_ | refine Ext.rem' rfl ?_)) hS ⟨hova9, hofva9, hv19⟩
  refine r_li rfl rfl (fun K168 hK168 => l_alloc hF hS zr77 rfl (fun a w b43 hF hS => hK168 _ _ _ (hS.lose (by first | exact .refl _ | exact .cons _ (.refl _) | exact .cons _ (.cons _ (.refl _)))) (fun _ h => h) ?_))
  refine r_one (i := 3) (by kernel_rfl) ?_
  have hsub := hS.sub
  refine r_li rfl rfl (fun K169 hK169 => l_call en38 hF rfl rfl (VNew_c id f (pubP priv).1 _ _ hS.fz) (fun v169 w hR a hF => ?_))
  obtain ⟨rfl, hc⟩ := hR
  replace hS := hS.call0 hc
  refine hK169 _ _ _ (hS.lose (by first | exact .refl _ | exact .cons _ (.refl _) | exact .cons _ (.cons _ (.refl _)))) (fun _ h => h) ?_
  refine r_one (i := 6) (by kernel_rfl) ?_
  have hsub := hS.sub
  refine r_li rfl rfl (fun K170 hK170 => l_call en37 hF rfl rfl (Accept_c (Vw.mk id f (pubP priv).1 none 0 [] none 0 []) es3 ad3 cp3 h (by omega) _ _ hS.fz hg (VwOK.new _ _ _ _) hr3 hoe3) (fun v170 w hR a hF => ?_))
  obtain ⟨va9, fva9, eva, H9, rfl, hle9, hova9, hofva9, har9, hc⟩ := hR
  replace hS := hS.call hc
  obtain ⟨hfk9, rfl, hv19⟩ := acc_new (VOf.new hopen []) rfl hmh rfl hie3 har9
  replace hg := hg.mono hc.le
  replace hr := hr.mono hc.le
  replace hr2 := hr2.mono hc.le
  replace hr3 := hr3.mono hc.le
  replace hoe3 := hoe3.mono hc.le
  replace hr4 := hr4.mono hc.le
  replace hoe4 := hoe4.mono hc.le
  replace hr7 := hr7.mono hc.le
  replace hr8 := hr8.mono hc.le
  replace hj33 := hj33.mono hc.le
  refine hK170 _ _ _ (hS.lose (by first | exact .refl _ | exact .cons _ (.refl _) | exact .cons _ (.cons _ (.refl _)))) (fun _ h => h.forget hsub hc.le) ?_
  refine r_q (i := 7) rfl rfl hF (hS.lose (by first | exact .refl _ | exact .cons _ (.refl _) | exact .cons _ (.cons _ (.refl _)))) (q_move rfl) rfl (fun a hF => ?_)
  refine r_q (i := 8) rfl rfl hF (hS.lose (by first | exact .refl _ | exact .cons _ (.refl _) | exact .cons _ (.cons _ (.refl _)))) (q_extract (i := 0) rfl rfl) rfl (fun a hF => ?_)
  refine r_q (i := 9) rfl rfl hF (hS.lose (by first | exact .refl _ | exact .cons _ (.refl _) | exact .cons _ (.cons _ (.refl _)))) (q_extract (i := 1) rfl rfl) rfl (fun a hF => ?_)
  refine r_q (i := 10) rfl rfl hF (hS.lose (by first | exact .refl _ | exact .cons _ (.refl _) | exact .cons _ (.cons _ (.refl _)))) (q_extract (i := 2) rfl rfl) rfl (fun a hF => ?_)
  refine r_one (i := 13) (by kernel_rfl) ?_
  refine r_li rfl rfl (fun K171 hK171 => l_store0A ty77 hF hS rfl rfl (i := 0) rfl rfl rfl rfl (fun a w hF hS => hK171 _ _ _ (hS.lose (by first | exact .refl _ | exact .cons _ (.refl _) | exact .cons _ (.cons _ (.refl _)))) (fun _ h => h) ?_))
  refine r_one (i := 14) (by kernel_rfl) ?_
  refine r_li rfl rfl (fun K172 hK172 => l_store0A ty82 hF hS rfl rfl (i := 1) rfl (by simp [dc_length, Hd.c_len, En.c_len, Fk.c_len, List.length_replicate, List.length_cons, List.length_nil, List.length_append]) (by simp [dc_length, Hd.c_len, En.c_len, Fk.c_len, List.length_replicate, List.length_cons, List.length_nil, List.length_append]) (Fk.c_all1 _) (fun a w hF hS => hK172 _ _ _ (hS.lose (by first | exact .refl _ | exact .cons _ (.refl _) | exact .cons _ (.cons _ (.refl _)))) (fun _ h => h) ?_))
  refine r_q (i := 15) rfl rfl hF (hS.lose (by first | exact .refl _ | exact .cons _ (.refl _) | exact .cons _ (.cons _ (.refl _)))) (q_assign rfl) rfl (fun a hF => ?_)
  refine r_done (by kernel_rfl) ?_
  exact hK33 ((b43, b40, va9, fva9)) _ _ _ hj33 (hF.meet ⟨rfl, rfl, rfl, trivial⟩ (by repeat first | exact Ext.remr _ _ | refine Ext.push rfl ?_ | refine Ext.rem' rfl ?_)) hS ⟨hova9, hofva9, hv19⟩
end Go.Proofs.YtneokajhmonpaaaDoor

/- ViewsCaught: whatever the numbers and the two lists of data, of bulk at most 1048576: the law answers true, and its arguments read as they did. CONDITION: the two tables of package digest read as the program's text lays them (the card ties that). -/
namespace Go.Proofs.YtneokajhmonpaaaDoor
open Go Go.RowKit Go.W Go.ChangeShapes Go.WideShapes
set_option maxRecDepth 100000
set_option maxHeartbeats 1000000
theorem viewsCaught_reads (os : Os) {H : Type} (enc : TypeId × Value → H) : ∃ places, DataW.whole enc Tryd.prog ((World.doorLaid Tryd.prog 4000 os).forCall (fun _ _ => 0) ⟨#[], #[.int .i64 0, .int .i64 0, .int .i64 0, .slice none 0 0, .slice none 0 0], []⟩).memory Tryd.f8.params.toList Rows.viewsCaughtSpec.vars false (#[.int .i64 0, .int .i64 0, .int .i64 0, .slice none 0 0, .slice none 0 0] : Array Value).toList 8 = some ([.lit (.int .i64 0), .lit (.int .i64 0), .lit (.int .i64 0), .nil, .nil], [], places) :=
  ⟨[], by kernel_rfl⟩
theorem viewsCaught_lifted (os : Os) (started : os.Started) (H : Type) (enc : TypeId × Value → H) (F : Stop.Interp) :
    ReturnsInHanded {} Tryd.checked os 8 .any ((Rows.OpenSpec.upto Rows.viewsCaughtSpec).preRow enc Tryd.prog Tryd.f8 Rows.viewsCaughtUptoRow.domain false Rows.viewsCaughtUptoRow.laid) (((Rows.OpenSpec.upto Rows.viewsCaughtSpec).at F).post enc Tryd.prog Tryd.f8 false true false false) := by
  obtain ⟨places, hx⟩ := viewsCaught_reads os enc
  refine returnsInHanded_of_row (C := Tryd.checked) (s := Rows.OpenSpec.upto Rows.viewsCaughtSpec) Fin.own started (by kernel_rfl) Tryd.func8
    (witness_row_at (enc := enc) (C := Tryd.checked) false (World.doorLaid Tryd.prog 4000 os) #[.int .i64 0, .int .i64 0, .int .i64 0, .slice none 0 0, .slice none 0 0] rfl (by kernel_rfl) (by kernel_rfl) (by kernel_rfl)
      (OpenSpec.preRow_of_cond 8 hx (by kernel_rfl) (fun k hk => by cases hk; kernel_rfl) (by kernel_rfl) (Fin.door_met os _))) ?_
  intro W base args ds gs before hval0 hW _ hcond _ hL _ _
  have hval : ∀ (j : Nat) t v, Tryd.f8.params[j]? = some t → args[j]? = some v → Value.okWide Tryd.prog W .any base t v := hval0
  have hW' : DataW.Whole enc Tryd.prog Tryd.f8.params.toList Rows.viewsCaughtSpec.vars false W args.toList ds gs before := hW
  have hbig : Rows.uptoSmall H (ds ++ gs) = true := hcond _ rfl
  obtain ⟨p, q, hA0, hV, rfl, hfz, hnd⟩ := hW
  have hA : DataW.TrodAll enc Tryd.prog W 0 (fun _ => true) true Tryd.f8.params.toList args.toList ds p := hA0
  rw [Tryd.params8] at hA hval
  obtain ⟨w0, w1, w2, w3, w4, d0, d1, d2, d3, d4, p0, p1, p2, p3, p4, rfl, rfl, rfl, k0, k1, k2, k3, k4⟩ := trodAll_five hA
  obtain ⟨id, rfl, rfl, rfl, wfid⟩ := open_int Tryd.underlying3 (hval 0 3 w0 rfl rfl) k0
  obtain ⟨priv, rfl, rfl, rfl, wfpriv⟩ := open_int Tryd.underlying3 (hval 1 3 w1 rfl rfl) k1
  obtain ⟨f, rfl, rfl, rfl, wff⟩ := open_int Tryd.underlying3 (hval 2 3 w2 rfl rfl) k2
  obtain ⟨n3, k3⟩ := k3
  obtain ⟨axs, xs, cxs, e3, lxs, rxs, xxs⟩ := trod_strs Tryd.underlying70 Tryd.underlying9 Fin.c9 k3
  obtain rfl : w3 = .slice axs xs.length cxs := by obtain ⟨_, _, _, e⟩ := okWide_slice Tryd.underlying70 (hval 3 70 w3 rfl rfl); exact one_slice e e3
  obtain ⟨n4, k4⟩ := k4
  obtain ⟨ays, ys, cys, e4, lys, rys, xys⟩ := trod_strs Tryd.underlying70 Tryd.underlying9 Fin.c9 k4
  obtain rfl : w4 = .slice ays ys.length cys := by obtain ⟨_, _, _, e⟩ := okWide_slice Tryd.underlying70 (hval 4 70 w4 rfl rfl); exact one_slice e e4
  have b3 : xs.length + totL xs ≤ Rows.uptoBulk d3 := Bulk.strs xxs
  have b4 : ys.length + totL ys ≤ Rows.uptoBulk d4 := Bulk.strs xys
  have hbk : Rows.uptoBulkAll ([.lit (.int .i64 id), .lit (.int .i64 priv), .lit (.int .i64 f), d3, d4] ++ gs) ≤ 1048576 := of_decide_eq_true hbig
  simp only [List.cons_append, Rows.uptoBulkAll] at hbk
  refine Calls.mono (ViewsCaught_c id priv f xs ys axs ays cxs cys (by omega) (by omega) (by omega) (by omega) W (HW W) (HW.fz W) (Fin.gl hL) rxs rys) ?_
  rintro e W' ⟨v9, rfl, rfl, hS⟩
  exact ⟨_, rfl, post_true (s := Rows.viewsCaughtSpec) Fin.kids Fin.full (fun t ht => by
    have h9 : (Tryd.f8.params.toList.all fun t => decide (t < Tryd.prog.types.size)) = true := by kernel_rfl
    exact of_decide_eq_true (List.all_eq_true.1 h9 t ht)) Tryd.underlying4 (by kernel_rfl) rfl hW' (fun gs hg => by rw [hg]; rfl) hS⟩
theorem viewsCaught_holds : Rows.ViewsCaughtUptoSaid :=
  OpenClaim.holds_of_cond 8 Tryd.f8 rfl rfl rfl rfl rfl rfl rfl ⟨rfl, rfl, rfl, rfl, rfl⟩ rfl rfl rfl rfl rfl (by kernel_rfl) Tryd.func8 (by kernel_rfl)
    (of_decide_eq_true (by kernel_rfl)) (by unfold Func.isWrapper; first | (rw [if_pos (by decide +kernel)]; kernel_rfl) | (rw [if_neg (by decide +kernel)]; exact ⟨rfl, rfl⟩))
    (fun os started H enc _ F => by rw [OpenClaim.pre_eq_preRow]; exact viewsCaught_lifted os started H enc F)
theorem viewsCaught_card : Rows.ViewsCaughtUptoCardSaid :=
  Claim7.holds_tied_plain_at .later [] _ _ _ _ viewsCaught_holds (fun _ h => by cases h) (by kernel_rfl) (fun _ h => by cases h) viewsCaughtUpto_row_tie rfl ⟨rfl, rfl⟩ (by kernel_rfl) rfl
    (fun f fn hf hfn => by
      obtain rfl : f = 8 := Option.some.inj ((show Tryd.prog.funcNamed "chartroom/chartroomlaw32.ViewsCaught" = some 8 by kernel_rfl).symm.trans hf) |>.symm
      obtain rfl : fn = Tryd.f8 := (Option.some.inj (Tryd.func8.symm.trans hfn)).symm
      exact ⟨by kernel_rfl, fun j t ht => by
        rw [Tryd.params8] at ht
        have hm : t ∈ [3, 3, 3, 70, 70] := by simpa using Array.mem_of_getElem? ht
        have hall : ([3, 3, 3, 70, 70].all fun u => !Tryd.prog.wantsStandIn u) = true := by kernel_rfl
        exact (show Tryd.prog.wantsStandIn t = false by simpa using List.all_eq_true.1 hall t hm)⟩)
    (by kernel_rfl)
#print axioms viewsCaught_card
end Go.Proofs.YtneokajhmonpaaaDoor

