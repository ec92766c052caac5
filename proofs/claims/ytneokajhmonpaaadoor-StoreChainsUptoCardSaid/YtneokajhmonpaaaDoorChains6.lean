import Derived.Test.YtneokajhmonpaaaDoorChains5
import Derived.Test.YtneokajhmonpaaaDoorChecked
import Derived.Lib.SlBytesConst
import Derived.Test.YtneokajhmonpaaaDoorRows
import Derived.Test.YtneokajhmonpaaaDoorTie
import Derived.Test.YtneokajhmonpaaaDoorCards
import Derived.SevenTiedAt
import Derived.ProofKit
import Derived.LaidMore
import Derived.OpenShut
import Derived.Stop.Joined
import Derived.Deep.DeepHandedRow
import Derived.Lib.LaidTab
/- A part of the proofs of the statements about the chartroom program (YtneokajhmonpaaaDoor): the statement itself. -/
set_option linter.unusedSimpArgs false
set_option linter.unusedVariables false
namespace Go.Proofs.YtneokajhmonpaaaDoor
open Go Go.RowKit Go.W
set_option maxRecDepth 10000
namespace T34
theorem en46 : enS Tryd.prog 46 = true := by kernel_rfl
theorem en47 : enS Tryd.prog 47 = true := by kernel_rfl
theorem en61 : enS Tryd.prog 61 = true := by kernel_rfl
theorem en62 : enS Tryd.prog 62 = true := by kernel_rfl
theorem fl48_0 : flS Tryd.prog 48 0 = some (0, 1) := by kernel_rfl
theorem fl48_2 : flS Tryd.prog 48 2 = some (33, 1) := by kernel_rfl
theorem fl48_3 : flS Tryd.prog 48 3 = some (34, 1) := by kernel_rfl
theorem ty3 : tyS Tryd.prog 3 = some (false, 1) := by kernel_rfl
theorem ty4 : tyS Tryd.prog 4 = some (false, 1) := by kernel_rfl
theorem ty26 : tyS Tryd.prog 26 = some (true, 3) := by kernel_rfl
theorem ty46 : tyS Tryd.prog 46 = some (false, 1) := by kernel_rfl
theorem ty48 : tyS Tryd.prog 48 = some (true, 35) := by kernel_rfl
theorem zr26 : zrS Tryd.prog 26 = some [.int .i64 0, .int .i64 0, .slice none 0 0] := by kernel_rfl
theorem mo : Tryd.prog.follows .mixedOrders = true := by kernel_rfl
end T34
open T34

set_option maxHeartbeats 800000 in
theorem Delete_c (s : Sto) (f no : Int) (w : World) (H : Froz) (hz : Fz H w) (hg : Gl 0 1 H) (ho : StOK H s) :
    CallsR Tryd.prog 23 [.agg s.c.toArray, .int .i64 f, .int .i64 no] w fun v w' => ∃ s' H', v = .tuple #[.agg s'.c.toArray, .int .i64 (delE s f no)] ∧ Le H H' ∧ StOK H' s' ∧ DelR s f no s' ∧ St ⟨w, H, []⟩ H' [] w' := by
  refine calls_start Tryd.func23 rfl Tryd.ntmps23 rfl (fun a hF => ?_)
  have hS := St.start w H hz
  refine c_seq (fun K1 hK1 => ?_)
  refine c_reg ?_
  refine n_l rfl (fun K2 hK2 => l_boxA hF hS rfl rfl (fun a w b1 hF hS => hK2 _ _ ?_))
  refine n_l rfl (fun K3 hK3 => l_alloc hF hS zr26 rfl (fun a w b2 hF hS => hK3 _ _ ?_))
  refine n_q hF hS (q_assign rfl) rfl (fun a hF => ?_)
  refine hK1 _ _ ?_
  refine c_seq (fun K4 hK4 => ?_)
  refine c_reg ?_
  refine n_q hF hS (q_load0 ty26 rfl (i := 1) rfl rfl rfl) rfl (fun a hF => ?_)
  refine n_q hF hS (q_move rfl) rfl (fun a hF => ?_)
  refine n_l rfl (fun K5 hK5 => l_call en46 hF rfl rfl (open_c s f _ _ hS.fz hg ho) (fun v5 w hR a hF => ?_))
  obtain ⟨pp, Ho, rfl, hleo, hopen, hc⟩ := hR
  replace hS := hS.call hc
  replace hg := hg.mono hleo
  replace ho := ho.mono hleo
  refine hK5 _ _ ?_
  refine n_q hF hS (q_move rfl) rfl (fun a hF => ?_)
  refine n_q hF hS (q_extract (i := 0) rfl rfl) rfl (fun a hF => ?_)
  refine n_q hF hS (q_extract (i := 1) rfl rfl) rfl (fun a hF => ?_)
  refine n_q hF hS (q_assign rfl) rfl (fun a hF => ?_)
  refine n_q hF hS (q_assign rfl) rfl (fun a hF => ?_)
  refine hK4 _ _ ?_
  refine c_seq (fun K6 hK6 => ?_)
  refine c_seq (fun K7 hK7 => ?_)
  refine c_reg ?_
  refine n_q hF hS (q_move rfl) rfl (fun a hF => ?_)
  refine n_q hF hS (q_neI rfl rfl) rfl (fun a hF => ?_)
  refine hK7 _ _ ?_
  refine spn hF (s := 18) rfl (fun hc18 hF => ?_) (fun hc18 hF => ?_)
  · refine c_true hF rfl ?_
    refine c_seq (fun K8 hK8 => ?_)
    refine c_reg ?_
    refine n_q hF hS (q_load0 ty26 rfl (i := 0) rfl rfl rfl) rfl (fun a hF => ?_)
    refine n_q hF hS (q_move rfl) rfl (fun a hF => ?_)
    refine n_l rfl (fun K9 hK9 => l_store0A ty26 hF hS rfl rfl (i := 0) rfl rfl rfl rfl (fun a w hF hS => hK9 _ _ ?_))
    refine n_q hF hS (q_assign rfl) rfl (fun a hF => ?_)
    refine hK8 _ _ ?_
    refine c_ret ?_
    repeat (first | refine ret_then ?_ | refine ret_blk ?_)
    refine c_ret' (P := Tryd.prog) (fn := Tryd.f23) rfl hF hS (.cell0 rfl ty26 (i := 0) rfl rfl rfl (.tmp rfl .nil)) ⟨_, rfl, ?_⟩
    have he : delE s f no = openE s f := by rw [delE_def, if_neg hc18]
    exact ⟨zSto, _, by rw [he]; rfl, hS.le, StOK.zero _, ⟨fun h => (by rw [he] at h; first | exact absurd h hc18 | cases h), fun _ => rfl⟩, hS.nil⟩
  · refine c_false hF rfl ?_
    refine wp_skip ?_
    refine hK6 _ _ ?_
    refine c_seq (fun K10 hK10 => ?_)
    refine c_reg ?_
    obtain ⟨bb, rfl, hbb⟩ := hopen hc18
    have hlg := checkN_ok (openE_ok hc18).1
    have hsrt := sorted_of hlg
    have hl16 := logs_le hlg
    refine n_q hF hS (q_move rfl) rfl (fun a hF => ?_)
    refine n_q hF hS (q_move rfl) rfl (fun a hF => ?_)
    refine n_l rfl (fun K11 hK11 => l_call en47 hF rfl rfl (entries_c s bb f hsrt _ _ hS.fz hbb ho) (fun v11 w hR a hF => ?_))
    obtain ⟨p, l, hpos, hcase, rfl, hc⟩ := hR
    replace hS := hS.call0 hc
    obtain ⟨hent, hlo⟩ : entF s.logs f = l.es ∧ LgOK _ l := by
      rcases hcase with ⟨h1, h2⟩ | ⟨h1, h2⟩
      · exact ⟨entF_yes hpos h1 h2, ho.lg l (List.mem_of_getElem? h2)⟩
      · subst h2; exact ⟨entF_no hsrt hpos h1, LgOK.nil _ f⟩
    have hlen := hlo.len
    have h65 : l.es.length ≤ 65536 := by
      rcases hcase with ⟨h1, h2⟩ | ⟨h1, h2⟩
      · exact ent_le hlg h2
      · subst h2; exact Nat.zero_le _
    refine hK11 _ _ ?_
    refine n_l rfl (fun K12 hK12 => l_call en62 hF rfl rfl (cloneE_c l.es l.ea l.ec hlen _ _ hS.fz hlo.rd.rd_en) (fun v12 w hR a hF => ?_))
    obtain ⟨ax, cx, Lx, rfl, hO, hc⟩ := hR
    replace hS : St _ _ ([_, _] ++ Lx) _ := (hS.call hc).perm List.perm_append_comm
    have hcx := hO.le
    obtain ⟨fL, hf0, hfO, hpx⟩ := hO.fam
    refine hK12 _ _ ?_
    refine n_q hF hS (q_assign rfl) rfl (fun a hF => ?_)
    refine hK10 _ _ ?_
    refine c_seq (fun K13 hK13 => ?_)
    refine c_seq (fun K14 hK14 => ?_)
    refine c_reg ?_
    refine n_q hF hS (q_move rfl) rfl (fun a hF => ?_)
    refine n_q hF hS (q_lss rfl rfl) rfl (fun a hF => ?_)
    refine n_q hF hS (q_move rfl) rfl (fun a hF => ?_)
    refine spd hF (s := 27) rfl (fun hc27 hF => ?_) (fun hc27 hF => ?_)
    · refine n_no hF (b := true) rfl rfl rfl (fun a hF => ?_)
      refine n_no hF (b := true) rfl rfl rfl (fun a hF => ?_)
      refine n_no hF (b := true) rfl rfl rfl (fun a hF => ?_)
      refine n_no hF (b := true) rfl rfl rfl (fun a hF => ?_)
      refine n_q hF hS (q_pick (b := true) rfl rfl) rfl (fun a hF => ?_)
      refine hK14 _ _ ?_
      refine c_true hF rfl ?_
      refine c_seq (fun K15 hK15 => ?_)
      refine c_reg ?_
      refine n_q hF hS (q_load0 ty26 rfl (i := 0) rfl rfl rfl) rfl (fun a hF => ?_)
      refine n_l rfl (fun K16 hK16 => l_store0A ty26 hF hS rfl rfl (i := 0) rfl rfl rfl rfl (fun a w hF hS => hK16 _ _ ?_))
      refine n_q hF hS (q_assign rfl) rfl (fun a hF => ?_)
      refine hK15 _ _ ?_
      refine c_ret ?_
      repeat (first | refine ret_then ?_ | refine ret_blk ?_)
      refine c_ret' (P := Tryd.prog) (fn := Tryd.f23) rfl hF hS (.cell0 rfl ty26 (i := 0) rfl rfl rfl (.tmp rfl .nil)) ⟨_, rfl, ?_⟩
      have he : delE s f no = 1 := by rw [delE_def, if_pos hc18, hent, if_pos (by omega)]
      exact ⟨zSto, _, by rw [he]; rfl, hS.le, StOK.zero _, ⟨fun h => (by rw [he] at h; first | exact absurd h hc18 | cases h), fun _ => rfl⟩, hS.nil⟩
    · refine n_yes hF rfl ?_
      refine n_q hF hS (q_move rfl) rfl (fun a hF => ?_)
      refine n_yes hF rfl ?_
      refine n_q hF hS (q_move rfl) rfl (fun a hF => ?_)
      refine n_yes hF rfl ?_
      refine n_q hF hS (q_len Tryd.underlying31 rfl rfl) rfl (fun a hF => ?_)
      refine n_yes hF rfl ?_
      refine n_q hF hS (q_gtr rfl rfl) rfl (fun a hF => ?_)
      refine n_q hF hS (q_pick (b := false) rfl rfl) rfl (fun a hF => ?_)
      refine hK14 _ _ ?_
      refine spd hF (s := 32) rfl (fun hc32 hF => ?_) (fun hc32 hF => ?_)
      · refine c_true hF rfl ?_
        refine c_seq (fun K17 hK17 => ?_)
        refine c_reg ?_
        refine n_q hF hS (q_load0 ty26 rfl (i := 0) rfl rfl rfl) rfl (fun a hF => ?_)
        refine n_l rfl (fun K18 hK18 => l_store0A ty26 hF hS rfl rfl (i := 0) rfl rfl rfl rfl (fun a w hF hS => hK18 _ _ ?_))
        refine n_q hF hS (q_assign rfl) rfl (fun a hF => ?_)
        refine hK17 _ _ ?_
        refine c_ret ?_
        repeat (first | refine ret_then ?_ | refine ret_blk ?_)
        refine c_ret' (P := Tryd.prog) (fn := Tryd.f23) rfl hF hS (.cell0 rfl ty26 (i := 0) rfl rfl rfl (.tmp rfl .nil)) ⟨_, rfl, ?_⟩
        have he : delE s f no = 1 := by rw [delE_def, if_pos hc18, hent, if_pos (by omega)]
        exact ⟨zSto, _, by rw [he]; rfl, hS.le, StOK.zero _, ⟨fun h => (by rw [he] at h; first | exact absurd h hc18 | cases h), fun _ => rfl⟩, hS.nil⟩
      · refine c_false hF rfl ?_
        refine wp_skip ?_
        refine hK13 _ _ ?_
        refine c_seq (fun K19 hK19 => ?_)
        refine c_reg ?_
        have hlt : 1 ≤ no ∧ no ≤ (l.es.length : Int) := by omega
        obtain ⟨q, hq⟩ : ∃ q : Nat, (q : Int) = no - 1 := ⟨(no - 1).toNat, by omega⟩
        have hql : q < l.es.length := by omega
        obtain ⟨bx, tail, hab, hfb⟩ := hpx (by omega)
        subst hab
        rw [← hf0, hfb] at hS
        obtain ⟨e, hed⟩ : ∃ e, e = l.es[q] := ⟨_, rfl⟩
        have he? : l.es[q]? = some e := by rw [hed]; simp [hql]
        have hfl : ((enE l.es).flatten ++ tail).length = l.es.length * 35 + tail.length := by rw [List.length_append, enE_len]
        refine n_q hF hS (q_move rfl) rfl (fun a hF => ?_)
        refine n_q hF hS (q_move rfl) rfl (fun a hF => ?_)
        refine n_q hF hS (q_subI rfl rfl (by omega)) rfl (fun a hF => ?_)
        refine rw_ hF (s := 36) (u := .int .i64 (q : Int)) rfl (by rw [hq]) (fun hF => ?_)
        refine n_q hF hS (q_indexAddrSO (j := q * 35) Tryd.underlying31 ty48 rfl rfl (by omega) (by omega)) rfl (fun a hF => ?_)
        refine n_q hF hS (q_assign rfl) rfl (fun a hF => ?_)
        refine hK19 _ _ ?_
        refine c_seq (fun K20 hK20 => ?_)
        refine c_seq (fun K21 hK21 => ?_)
        refine c_reg ?_
        refine n_q hF hS (q_move rfl) rfl (fun a hF => ?_)
        refine n_q hF hS (q_nilCheck rfl) rfl (fun a hF => ?_)
        refine n_q hF hS (q_fieldAddr fl48_0 (by decide) rfl) rfl (fun a hF => ?_)
        refine n_q hF hS (q_load ty3 rfl (i := 2) rfl (by rw [Nat.ble_eq, hfl]; omega) rfl (en_ld0' he?)) rfl (fun a hF => ?_)
        refine n_q hF hS (q_neI rfl rfl) rfl (fun a hF => ?_)
        refine hK21 _ _ ?_
        refine spn hF (s := 42) rfl (fun hc42 hF => ?_) (fun hc42 hF => ?_)
        · refine c_true hF rfl ?_
          refine c_seq (fun K22 hK22 => ?_)
          refine c_reg ?_
          refine n_q hF hS (q_load0 ty26 rfl (i := 0) rfl rfl rfl) rfl (fun a hF => ?_)
          refine n_l rfl (fun K23 hK23 => l_store0A ty26 hF hS rfl rfl (i := 0) rfl rfl rfl rfl (fun a w hF hS => hK23 _ _ ?_))
          refine n_q hF hS (q_assign rfl) rfl (fun a hF => ?_)
          refine hK22 _ _ ?_
          refine c_ret ?_
          repeat (first | refine ret_then ?_ | refine ret_blk ?_)
          refine c_ret' (P := Tryd.prog) (fn := Tryd.f23) rfl hF hS (.cell0 rfl ty26 (i := 0) rfl rfl rfl (.tmp rfl .nil)) ⟨_, rfl, ?_⟩
          have he : delE s f no = 300 := by rw [delE_def, if_pos hc18, hent, if_neg (by omega), show (no - 1).toNat = q by omega, he?]; show (if e.kind = 4 then (0 : Int) else 300) = 300; rw [if_neg hc42]
          exact ⟨zSto, _, by rw [he]; rfl, hS.le, StOK.zero _, ⟨fun h => (by rw [he] at h; first | exact absurd h hc18 | cases h), fun _ => rfl⟩, hS.nil⟩
        · refine c_false hF rfl ?_
          refine wp_skip ?_
          refine hK20 _ _ ?_
          refine c_seq (fun K24 hK24 => ?_)
          refine c_reg ?_
          refine n_q hF hS (q_move rfl) rfl (fun a hF => ?_)
          refine n_q hF hS (q_move rfl) rfl (fun a hF => ?_)
          refine n_q hF hS (q_nilCheck rfl) rfl (fun a hF => ?_)
          refine n_q hF hS (q_fieldAddr fl48_2 (by decide) rfl) rfl (fun a hF => ?_)
          refine n_l rfl (fun K25 hK25 => l_store (vs := [_]) ty46 hF hS rfl rfl (i := 2) rfl rfl rfl (by rw [Nat.ble_eq, hfl]; omega) (by first | exact dc_all1 _ | rfl | simp [all1]) (fun a w hF hS => hK25 _ _ ?_))
          refine n_q hF hS (q_nilCheck rfl) rfl (fun a hF => ?_)
          refine n_q hF hS (q_fieldAddr fl48_3 (by decide) rfl) rfl (fun a hF => ?_)
          refine n_l rfl (fun K26 hK26 => l_store (vs := [_]) ty4 hF hS rfl rfl (i := 2) rfl rfl rfl (by rw [Nat.ble_eq, spl_length (by rw [hfl]; show _ + 1 ≤ _; omega), hfl]; omega) (by first | exact dc_all1 _ | rfl | simp [all1]) (fun a w hF hS => hK26 _ _ ?_))
          refine hK24 _ _ ?_
          refine c_seq (fun K27 hK27 => ?_)
          refine c_reg ?_
          try dsimp only [List.set] at hS
          rw [del_st he?] at hS
          obtain ⟨es2, hes2⟩ : ∃ q', q' = l.es.set q e.del := ⟨_, rfl⟩
          have hn2 : es2.length = l.es.length := by rw [hes2, List.length_set]
          have hk2 : es2.map En.key = (l.es.map En.key).modify q delKey := by rw [hes2, del_key he?]
          obtain ⟨H6, hle6, hS6, hr6⟩ := (hfO es2 hn2).freeze (St.perm (L' := fL es2 ++ [_, _]) (St.cast (L' := [⟨b2, [.int .i64 0, .int .i64 0, .slice none 0 0], 26⟩, ⟨b1, s.c, 26⟩] ++ fL es2) hS (by rw [hfb, hes2]; rfl)) List.perm_append_comm)
          replace hS := hS6
          replace hbb := hbb.mono hle6
          replace ho := ho.mono hle6
          replace hlo := hlo.mono hle6
          have hlo2 : LgOK H6 ⟨f, some ⟨bx, 0, none⟩, cx, es2⟩ := ⟨RdL.of_en (by rw [hn2]; exact hr6), by show EnsOK H6 es2; rw [hes2]; exact del_ok hlo.en, by show es2.length ≤ _; omega, by show es2.length ≤ cx; rw [hn2]; exact hcx⟩
          clear hes2
          refine n_q hF hS (q_move rfl) rfl (fun a hF => ?_)
          refine n_q hF hS (q_move rfl) rfl (fun a hF => ?_)
          refine n_q hF hS (q_move rfl) rfl (fun a hF => ?_)
          refine rw_ hF (s := 52) (u := .slice (some ⟨bx, 0, none⟩) es2.length cx) rfl (by rw [hn2]) (fun hF => ?_)
          refine n_l rfl (fun K28 hK28 => l_call en61 hF rfl rfl (replace_c s bb f es2 (some ⟨bx, 0, none⟩) cx hsrt (by omega) _ _ hS.fz hbb ho hlo2) (fun v28 w hR a hF => ?_))
          obtain ⟨s', H7, rfl, hle7, ho7, hid7, hpr7, hkey7, hc⟩ := hR
          replace hS := hS.call hc
          refine hK28 _ _ ?_
          refine n_l rfl (fun K29 hK29 => l_store0A ty26 hF hS rfl rfl (i := 0) rfl rfl rfl rfl (fun a w hF hS => hK29 _ _ ?_))
          refine n_q hF hS (q_assign rfl) rfl (fun a hF => ?_)
          refine hK27 _ _ ?_
          refine c_ret ?_
          repeat (first | refine ret_then ?_ | refine ret_blk ?_)
          refine c_ret' (P := Tryd.prog) (fn := Tryd.f23) rfl hF hS (.cell0 rfl ty26 (i := 0) rfl rfl rfl (.tmp rfl .nil)) ⟨_, rfl, ?_⟩
          have he : delE s f no = 0 := by rw [delE_def, if_pos hc18, hent, if_neg (by omega), show (no - 1).toNat = q by omega, he?]; show (if e.kind = 4 then (0 : Int) else 300) = 0; rw [if_pos hc42]
          exact ⟨s', _, by rw [he]; rfl, hS.le, ho7, ⟨fun _ => ⟨hid7, hpr7, by rw [hkey7, delK, hent, show (no - 1).toNat = q by omega, hk2]⟩, fun h => absurd he h⟩, hS.nil⟩
end Go.Proofs.YtneokajhmonpaaaDoor
namespace Go.Proofs.YtneokajhmonpaaaDoor
open Go Go.RowKit Go.W
set_option maxRecDepth 10000
namespace T35
theorem bt35 : byS Tryd.prog 35 = some 32 := by kernel_rfl
theorem en85 : enS Tryd.prog 85 = true := by kernel_rfl
theorem en86 : enS Tryd.prog 86 = true := by kernel_rfl
theorem fl48_1 : flS Tryd.prog 48 1 = some (1, 32) := by kernel_rfl
theorem ty31 : tyS Tryd.prog 31 = some (false, 1) := by kernel_rfl
theorem ty35 : tyS Tryd.prog 35 = some (true, 32) := by kernel_rfl
theorem ty45 : tyS Tryd.prog 45 = some (false, 1) := by kernel_rfl
theorem ty48 : tyS Tryd.prog 48 = some (true, 35) := by kernel_rfl
theorem zr35 : zrS Tryd.prog 35 = some (List.replicate 32 (.int .u8 0)) := by kernel_rfl
theorem zr48 : zrS Tryd.prog 48 = some [.int .i64 0, .int .u8 0, .int .u8 0, .int .u8 0, .int .u8 0, .int .u8 0, .int .u8 0, .int .u8 0, .int .u8 0, .int .u8 0, .int .u8 0, .int .u8 0, .int .u8 0, .int .u8 0, .int .u8 0, .int .u8 0, .int .u8 0, .int .u8 0, .int .u8 0, .int .u8 0, .int .u8 0, .int .u8 0, .int .u8 0, .int .u8 0, .int .u8 0, .int .u8 0, .int .u8 0, .int .u8 0, .int .u8 0, .int .u8 0, .int .u8 0, .int .u8 0, .int .u8 0, .slice none 0 0, .bool false] := by kernel_rfl
theorem mo : Tryd.prog.follows .mixedOrders = true := by kernel_rfl
end T35
open T35

theorem digests1s_c (es : List En) (al : Option Addr) (cl : Nat) (hn : es.length ≤ 1000000) (b : Nat) {Γ : Type} (l : Nat) (r0 : Loop) (Lc : Γ → List Blk) (C : Nat → Γ → Froz → Prop) (X : Nat → Code → Γ → Froz → Prop) (γ0 : Γ) (w : World) (H : Froz) (hx : HR H b [.slice al es.length cl]) (hr : RdL H al 35 (enE es)) (hH0 : Hand w H (Lc γ0)) (hlz : H l = none) (hw0 : w.heap[l]? = some (.loop r0)) (hC0 : C 0 γ0 H) (hRd : RoundsOK Tryd.prog l r0 es.length (dgY (es.map En.dg)) Lc C X H) :
    CallsR Tryd.prog 86 [yv l, .pointer (some ⟨b, 0, none⟩)] w fun _ w' => IterR l r0 es.length Lc C X H ((Lc γ0).map (·.b)) w w' := by
  refine calls_start Tryd.func86 rfl Tryd.ntmps86 rfl (fun a hF => ?_)
  have hS := St.startG hH0
  refine c_seq (fun K1 hK1 => ?_)
  refine c_reg ?_
  refine n_q hF hS (q_loadG (o := 0) (v := .slice al es.length cl) ty31 rfl hx.h (Nat.le_of_ble_eq_true rfl) rfl rfl) rfl (fun a hF => ?_)
  refine n_q hF hS (q_len Tryd.underlying31 rfl rfl) rfl (fun a hF => ?_)
  refine n_q hF hS (q_move rfl) rfl (fun a hF => ?_)
  refine hK1 _ _ ?_
  refine c_block ?_
  refine c_loopL hF [4, 7, 8, 9, 10, 11, 12, 13, 14, 15, 16]
    (fun g : Nat × Γ => [(7, .int .i64 (g.1 : Int))])
    (fun g => Lc g.2)
    (fun g H => g.1 ≤ es.length ∧ C g.1 g.2 H)
    (fun g => es.length - g.1) ((0, γ0)) ⟨rfl, trivial⟩ (hS) (⟨Nat.zero_le _, hC0⟩) ?_
  clear hF hS
  intro g a w H hle hF hS hJ
  replace hr := hr.mono hle
  have hl0 := Le.refl H
  obtain ⟨j, γ⟩ := g
  obtain ⟨hj, hC⟩ := hJ
  try dsimp only at hF hS hj hC
  refine c_seq (fun K2 hK2 => ?_)
  refine c_reg ?_
  refine n_q hF hS (q_lss rfl rfl) rfl (fun a hF => ?_)
  refine hK2 _ _ ?_
  refine c_seq (fun K3 hK3 => ?_)
  refine spd hF (s := 8) rfl (fun hc8 hF => ?_) (fun hc8 hF => ?_)
  · refine c_true hF rfl ?_
    refine wp_skip ?_
    refine hK3 _ _ ?_
    refine c_seq (fun K4 hK4 => ?_)
    refine c_block ?_
    refine c_seq (fun K5 hK5 => ?_)
    refine c_reg ?_
    have hlt : j < es.length := by omega
    obtain ⟨e, hed⟩ : ∃ q, q = es[j] := ⟨_, rfl⟩
    have hel : (enE es)[j]? = some e.c := by simp [enE, hlt, hed]
    have hdg : dgY (es.map En.dg) j = [.agg (dc e.dg).toArray] := dgY_at (by simp [hlt, hed])
    refine n_q hF hS (q_indexAddrS Tryd.underlying31 ty48 rfl rfl (by omega) (hr.some (by simp [enE]; omega))) rfl (fun a hF => ?_)
    refine n_q hF hS (q_loadL0 (v := .agg e.c.toArray) ty48 rfl hr hel (by decide) rfl (En.ld_all e)) rfl (fun a hF => ?_)
    refine n_l rfl (fun K6 hK6 => l_alloc hF hS zr48 rfl (fun a w b1 hF hS => hK6 _ _ ?_))
    refine n_l rfl (fun K7 hK7 => l_store0A ty48 hF hS rfl rfl (i := 0) rfl (by simp [dc_length, Hd.c_len, En.c_len, List.length_replicate, List.length_cons, List.length_nil, List.length_append]) (by simp [dc_length, Hd.c_len, En.c_len, List.length_replicate, List.length_cons, List.length_nil, List.length_append]) (En.c_all1 _) (fun a w hF hS => hK7 _ _ ?_))
    refine hK5 _ _ ?_
    refine c_seq (fun K8 hK8 => ?_)
    refine y_reg ?_
    refine y_q hF hS (q_move rfl) rfl rfl (fun a hF => ?_)
    refine y_q hF hS (q_fieldAddr fl48_1 (by decide) rfl) rfl rfl (fun a hF => ?_)
    refine y_q hF hS (q_load ty35 rfl (i := 0) rfl (by simp [dc_length, Hd.c_len, En.c_len, List.length_replicate, List.length_cons, List.length_nil, List.length_append]) rfl (En.ld_dg e)) rfl rfl (fun a hF => ?_)
    have hlw := hS.loop_at hw0 (hH0.loop_not hw0)
    have hln := hS.loop_no hw0 hlz (hH0.loop_not hw0)
    replace hS : St _ _ (Lc γ ++ [⟨b1, e.c, 48⟩]) _ := St.perm (L := [⟨b1, e.c, 48⟩] ++ Lc γ) hS List.perm_append_comm
    refine y_y rfl (fun K9 hK9 => y_call hF rfl rfl rfl (by have h9 := hRd j hlt _ _ _ hC hle hS.hand hln hlw; rw [hdg] at h9; exact h9) (fun v w hR a hF => ?_) (fun e w h => by rcases h with ⟨rfl, _⟩ | ⟨rfl, _⟩ <;> exact ⟨_, rfl⟩))
    rcases hR with ⟨hv, γ', H', hC', hc, hl'⟩ | ⟨hv, γ', H', c', hX', hn', hc, hl'⟩
    · obtain rfl := Ending.returned.inj hv
      have hle' := hc.le
      replace hS := hS.callG hc
      replace hr := hr.mono hle'
      replace hl0 := hl0.mono hle'
      refine hK9 _ _ ?_
      refine y_q hF hS (q_not rfl) rfl rfl (fun a hF => ?_)
      refine hK8 _ _ ?_
      refine c_false hF rfl ?_
      refine wp_skip ?_
      refine hK4 _ _ ?_
      refine c_reg ?_
      refine n_q hF hS (q_addI rfl rfl (by omega)) rfl (fun a hF => ?_)
      refine n_q hF hS (q_move rfl) rfl (fun a hF => ?_)
      exact ⟨(j + 1, γ'), _, (by show es.length - (j + 1) < es.length - j; omega), hl0, hF.back ⟨rfl, trivial⟩ rfl (by repeat first | exact Ext.refl _ _ | refine Ext.rem' rfl ?_ | refine Ext.push rfl ?_), (hS.lose (List.sublist_append_left _ _)), ⟨by show j + 1 ≤ _; omega, hC'⟩⟩
    · obtain rfl := Ending.returned.inj hv
      have hSl := hS.leave hc
      replace hS := St.start _ _ hc.froz
      refine hK9 _ _ ?_
      refine y_q hF hS (q_not rfl) rfl rfl (fun a hF => ?_)
      refine hK8 _ _ ?_
      refine c_true hF rfl ?_
      refine c_ret ?_
      repeat (first | refine ret_then ?_ | refine ret_blk ?_)
      refine c_ret' (P := Tryd.prog) (fn := Tryd.f86) rfl hF hS .nil ⟨_, rfl, ?_⟩
      exact .inr ⟨j, γ', H', c', hlt, hX', hn', hSl, hl'⟩
  · refine c_false hF rfl ?_
    refine c_exit ?_
    repeat (first | refine ex_then ?_ | refine ex_blk ?_)
    refine c_norm (P := Tryd.prog) (fn := Tryd.f86) rfl hF hS .nil ⟨_, rfl, ?_⟩
    obtain rfl : j = es.length := by omega
    exact .inl ⟨γ, _, hC, hS, hS.loop_at hw0 (hH0.loop_not hw0)⟩

theorem digestsS_c (al : Option Addr) (n cl : Nat) (w : World) (H : Froz) (hz : Fz H w) :
    CallsR Tryd.prog 50 [.slice al n cl] w fun v w' => ∃ bq H', v = .func (.func 86) #[] #[.pointer (some ⟨bq, 0, none⟩)] ∧ Le H H' ∧ HR H' bq [.slice al n cl] ∧ St ⟨w, H, []⟩ H' [] w' := by
  refine calls_start Tryd.func50 rfl Tryd.ntmps50 rfl (fun a hF => ?_)
  have hS := St.start w H hz
  refine c_seq (fun K1 hK1 => ?_)
  refine c_reg ?_
  refine n_l rfl (fun K2 hK2 => l_box (cs := [_]) hF hS rfl rfl rfl (fun a w b1 hF hS => hK2 _ _ ?_))
  refine n_q hF hS (q_assign rfl) rfl (fun a hF => ?_)
  refine hK1 _ _ ?_
  refine c_seq (fun K3 hK3 => ?_)
  refine c_reg ?_
  refine n_q hF hS (q_makeFunc rfl rfl) rfl (fun a hF => ?_)
  refine n_q hF hS (q_assign rfl) rfl (fun a hF => ?_)
  refine hK3 _ _ ?_
  refine c_ret ?_
  repeat (first | refine ret_then ?_ | refine ret_blk ?_)
  refine c_ret' (P := Tryd.prog) (fn := Tryd.f50) rfl hF hS (.tmp rfl .nil) ⟨_, rfl, ?_⟩
  obtain ⟨H1, hH1, hle1, hS1⟩ := hS.freeze' (i := 0) rfl
  exact ⟨b1, H1, rfl, hle1, by rw [hH1]; exact frz_hr, hS1⟩

theorem AppendSeq_c (es : List En) (al : Option Addr) (cl : Nat) (hn : es.length ≤ 1000000) (bq : Nat) (w : World) (H : Froz) (hz : Fz H w) (hx : HR H bq [.slice al es.length cl]) (hr : RdL H al 35 (enE es)) :
    CallsR Tryd.prog 85 [.slice none 0 0, .func (.func 86) #[] #[.pointer (some ⟨bq, 0, none⟩)]] w fun v w' => ∃ ad cp Lx, v = .slice ad es.length cp ∧ OwS 35 32 (.slice ad es.length cp) es.length (dgE (es.map En.dg)).flatten Lx ∧ St ⟨w, H, []⟩ H Lx w' := by
  refine callsM_start Tryd.func85 rfl Tryd.ntmps85 rfl (fun a hF => ?_)
  have hS := St.start w H hz
  refine c_seq (fun K1 hK1 => ?_)
  refine c_reg ?_
  refine n_l rfl (fun K2 hK2 => l_box (cs := [_]) hF hS rfl rfl rfl (fun a w b1 hF hS => hK2 _ _ ?_))
  refine n_q hF hS (q_assign rfl) rfl (fun a hF => ?_)
  refine hK1 _ _ ?_
  refine c_seq (fun K3 hK3 => ?_)
  refine c_seq (fun K4 hK4 => ?_)
  refine c_reg ?_
  refine n_q hF hS (q_move rfl) rfl (fun a hF => ?_)
  refine hK4 _ _ ?_
  refine c_block ?_
  have hF0 := hF
  refine c_rangeF (Γ := Nat × Option Addr × Nat × List Blk) (Lr := []) (N := es.length) (Lc := fun g => [⟨b1, [.slice g.2.1 g.1 g.2.2.1], 45⟩] ++ g.2.2.2) (C := fun j g _ => g.1 = j ∧ OwS 35 32 (.slice g.2.1 g.1 g.2.2.1) g.1 (dgE ((es.map En.dg).take g.1)).flatten g.2.2.2) (X := fun _ _ _ _ => False) (γ0 := (0, none, 0, [])) (dgY (es.map En.dg)) en86 hF hS rfl (⟨rfl, .nil⟩) ?_ ?_ ?_ ?_
  · intro l r0 w hrs hH hlz hw hR
    exact digests1s_c es al cl hn bq l r0 _ _ _ _ w _ hx hr hH hlz hw ⟨rfl, .nil⟩ hR
  · intro l r0 hrs hrp hps has hbo htm j hj γ H w hC hle hH hlz hw
    refine y_round hF0 hrs hps has hbo htm (dgY_len (by simpa using hj)).symm rfl hH hlz hw (fun a K hF hS hK => ?_)
    replace hx := hx.mono hle
    replace hr := hr.mono hle
    obtain ⟨n, ad, cp, Lx⟩ := γ
    obtain ⟨hnj, hO⟩ := hC
    try dsimp only at hF hS hnj hO
    subst hnj
    obtain ⟨d, hdd⟩ : ∃ d, (es.map En.dg)[n]? = some d := ⟨(es.map En.dg)[n]'(by simpa using hj), List.getElem?_eq_getElem _⟩
    rw [dgY_at hdd] at hF
    refine k_reg (by repeat first | exact nl_round | exact nl_false | refine nl_then ?_ | refine nl_block ?_) rfl ?_
    refine n_l rfl (fun K5 hK5 => l_alloc hF hS zr35 rfl (fun a w b2 hF hS => hK5 _ _ ?_))
    refine n_l rfl (fun K6 hK6 => l_store0A ty35 hF hS rfl rfl (i := 0) rfl (by simp [dc_length, Hd.c_len, En.c_len, List.length_replicate, List.length_cons, List.length_nil, List.length_append]) (by simp [dc_length, Hd.c_len, En.c_len, List.length_replicate, List.length_cons, List.length_nil, List.length_append]) (by first | exact dc_all1 _ | rfl | simp [all1]) (fun a w hF hS => hK6 _ _ ?_))
    refine hK _ _ _ _ _ hF hS (fun w hS => ?_)
    refine k_block ?_
    refine k_reg (by repeat first | exact nl_round | exact nl_false | refine nl_then ?_ | refine nl_block ?_) rfl ?_
    refine n_q hF hS (q_load ty45 rfl (i := 1) rfl rfl rfl rfl) rfl (fun a hF => ?_)
    refine n_q hF hS (q_load0 ty35 rfl (i := 0) rfl (by simp [dc_length, Hd.c_len, En.c_len, List.length_replicate, List.length_cons, List.length_nil, List.length_append]) rfl) rfl (fun a hF => ?_)
    refine n_l rfl (fun K7 hK7 => l_buildF (els := [dc d]) Tryd.underlying45 ty35 zr35 hF hS rfl rfl rfl (fun e he => by rw [List.mem_singleton.1 he]; exact dc_length _) rfl rfl rfl (fun a w b3 hF hle hS r3_2 => ?_))
    replace hx := hx.mono hle
    replace hr := hr.mono hle
    refine hK7 _ _ ?_
    replace hS := St.perm (L := [_, _] ++ Lx) (L' := Lx ++ [_, _]) hS List.perm_append_comm
    refine n_l rfl (fun K8 hK8 => l_append Tryd.underlying45 ty35 zr35 bt35 hF hS rfl rfl (hO) (.slice Tryd.underlying45 r3_2.rd (by simp only [List.flatten_cons, List.flatten_nil, List.append_nil]; exact dc_all1 _)) (by omega) (by simp only [maxLen]; omega) rfl rfl (fun a w c3_3 ad3_3 Lx3_3 ho3_3 hF hS => hK8 _ _ ?_))
    replace hS := hS.perm (L' := [_, _] ++ Lx3_3) List.perm_append_comm
    refine n_l rfl (fun K9 hK9 => l_store (vs := [_]) ty45 hF hS rfl rfl (i := 1) rfl rfl rfl rfl rfl (fun a w hF hS => hK9 _ _ ?_))
    repeat (first | refine ex_then ?_ | refine ex_blk ?_)
    exact round_norm (a := a) (γ' := (n + 1, ad3_3, c3_3, Lx3_3)) hrs hrp hw hlz (hH.loop_not hw) (hS.lose (.cons _ (List.Sublist.refl _))) ⟨rfl, by rw [dgE_snoc hdd]; exact ho3_3⟩
  · intro γ H w D hC hle hS hD
    replace hx := hx.mono hle
    replace hr := hr.mono hle
    obtain ⟨n, ad, cp, Lx⟩ := γ
    obtain ⟨hnj, hO⟩ := hC
    try dsimp only at hS hnj hO
    subst hnj
    rw [List.append_nil] at hS
    refine hK3 _ _ ?_
    refine c_seq (fun K10 hK10 => ?_)
    refine c_reg ?_
    refine m_q hF hS (q_load ty45 rfl (i := 0) rfl rfl rfl rfl) rfl (fun a hF => ?_)
    refine m_q hF hS (q_assign rfl) rfl (fun a hF => ?_)
    refine hK10 _ _ ?_
    refine c_ret ?_
    repeat (first | refine ret_then ?_ | refine ret_blk ?_ | refine ex_then ?_ | refine ex_blk ?_)
    refine m_ret (P := Tryd.prog) (fn := Tryd.f85) rfl hF hS hD (.tmp rfl .nil) (fun w hS => ⟨_, rfl, ?_⟩)
    rw [List.take_of_length_le (by simp)] at hO
    exact ⟨ad, cp, Lx, rfl, hO, (hS.lose (.cons _ (List.Sublist.refl _))).forget (Le.refl _) hS.le⟩
  · exact fun _ _ _ _ _ _ _ h => h.elim

theorem Collect_c (es : List En) (al : Option Addr) (cl : Nat) (hn : es.length ≤ 1000000) (bq : Nat) (w : World) (H : Froz) (hz : Fz H w) (hx : HR H bq [.slice al es.length cl]) (hr : RdL H al 35 (enE es)) :
    CallsR Tryd.prog 49 [.func (.func 86) #[] #[.pointer (some ⟨bq, 0, none⟩)]] w fun v w' => ∃ ad cp Lx, v = .slice ad es.length cp ∧ OwS 35 32 (.slice ad es.length cp) es.length (dgE (es.map En.dg)).flatten Lx ∧ St ⟨w, H, []⟩ H Lx w' := by
  refine calls_start Tryd.func49 rfl Tryd.ntmps49 rfl (fun a hF => ?_)
  have hS := St.start w H hz
  refine c_seq (fun K1 hK1 => ?_)
  refine c_reg ?_
  refine n_q hF hS (q_assign rfl) rfl (fun a hF => ?_)
  refine hK1 _ _ ?_
  refine c_seq (fun K2 hK2 => ?_)
  refine c_reg ?_
  refine n_q hF hS (q_move rfl) rfl (fun a hF => ?_)
  refine n_l rfl (fun K3 hK3 => l_call en85 hF rfl rfl (AppendSeq_c es al cl hn bq _ _ hS.fz hx hr) (fun v3 w hR a hF => ?_))
  obtain ⟨ad, cp, Lx, rfl, hO, hc⟩ := hR
  replace hS := hS.call hc
  refine hK3 _ _ ?_
  refine n_q hF hS (q_assign rfl) rfl (fun a hF => ?_)
  refine hK2 _ _ ?_
  refine c_ret ?_
  repeat (first | refine ret_then ?_ | refine ret_blk ?_)
  refine c_ret' (P := Tryd.prog) (fn := Tryd.f49) rfl hF hS (.tmp rfl .nil) ⟨_, rfl, ?_⟩
  rw [List.append_nil] at hS
  exact ⟨ad, cp, Lx, rfl, hO, hS⟩
end Go.Proofs.YtneokajhmonpaaaDoor
namespace Go.Proofs.YtneokajhmonpaaaDoor
open Go Go.RowKit Go.W
set_option maxRecDepth 10000
namespace T36
theorem en18 : enS Tryd.prog 18 = true := by kernel_rfl
theorem en46 : enS Tryd.prog 46 = true := by kernel_rfl
theorem en49 : enS Tryd.prog 49 = true := by kernel_rfl
theorem en50 : enS Tryd.prog 50 = true := by kernel_rfl
theorem en51 : enS Tryd.prog 51 = true := by kernel_rfl
theorem en52 : enS Tryd.prog 52 = true := by kernel_rfl
theorem fl26_0 : flS Tryd.prog 26 0 = some (0, 1) := by kernel_rfl
theorem fl26_1 : flS Tryd.prog 26 1 = some (1, 1) := by kernel_rfl
theorem fl39_4 : flS Tryd.prog 39 4 = some (35, 2) := by kernel_rfl
theorem pl39 : plS Tryd.prog 39 = some [(0, 1), (1, 1), (2, 1), (3, 32), (35, 2)] := by kernel_rfl
theorem ty3 : tyS Tryd.prog 3 = some (false, 1) := by kernel_rfl
theorem ty26 : tyS Tryd.prog 26 = some (true, 3) := by kernel_rfl
theorem ty37 : tyS Tryd.prog 37 = some (true, 2) := by kernel_rfl
theorem ty39 : tyS Tryd.prog 39 = some (true, 37) := by kernel_rfl
theorem zr39 : zrS Tryd.prog 39 = some [.int .i64 0, .int .i64 0, .int .i64 0, .int .u8 0, .int .u8 0, .int .u8 0, .int .u8 0, .int .u8 0, .int .u8 0, .int .u8 0, .int .u8 0, .int .u8 0, .int .u8 0, .int .u8 0, .int .u8 0, .int .u8 0, .int .u8 0, .int .u8 0, .int .u8 0, .int .u8 0, .int .u8 0, .int .u8 0, .int .u8 0, .int .u8 0, .int .u8 0, .int .u8 0, .int .u8 0, .int .u8 0, .int .u8 0, .int .u8 0, .int .u8 0, .int .u8 0, .int .u8 0, .int .u8 0, .int .u8 0, .int .i64 0, .int .i64 0] := by kernel_rfl
theorem mo : Tryd.prog.follows .mixedOrders = true := by kernel_rfl
end T36
open T36

set_option maxHeartbeats 800000 in
theorem StSign_c (s : Sto) (f : Int) (es : List En) (al : Option Addr) (cl : Nat) (hn : es.length ≤ 1000000) (w : World) (H : Froz) (hz : Fz H w) (hg : Gl 0 1 H) (ho : StOK H s) (hr : RdL H al 35 (enE es)) :
    CallsR Tryd.prog 15 [.agg s.c.toArray, .int .i64 f, .slice al es.length cl] w fun v w' => v = .tuple #[.agg (signH s f (es.map En.dg)).c.toArray, .int .i64 (signE s f es.length)] ∧ St ⟨w, H, []⟩ H [] w' := by
  refine calls_start Tryd.func15 rfl Tryd.ntmps15 rfl (fun a hF => ?_)
  have hS := St.start w H hz
  refine c_seq (fun K1 hK1 => ?_)
  refine c_reg ?_
  refine n_l rfl (fun K2 hK2 => l_boxA hF hS rfl rfl (fun a w b1 hF hS => hK2 _ _ ?_))
  refine n_l rfl (fun K3 hK3 => l_alloc hF hS zr39 rfl (fun a w b2 hF hS => hK3 _ _ ?_))
  refine n_q hF hS (q_assign rfl) rfl (fun a hF => ?_)
  refine hK1 _ _ ?_
  refine c_seq (fun K4 hK4 => ?_)
  refine c_seq (fun K5 hK5 => ?_)
  refine c_reg ?_
  refine n_q hF hS (q_load0 ty26 rfl (i := 1) rfl rfl rfl) rfl (fun a hF => ?_)
  refine n_q hF hS (q_move rfl) rfl (fun a hF => ?_)
  refine n_l rfl (fun K6 hK6 => l_call en46 hF rfl rfl (open_c s f _ _ hS.fz hg ho) (fun v6 w hR a hF => ?_))
  obtain ⟨pp, Ho, rfl, hleo, hopen, hc⟩ := hR
  replace hS := hS.call hc
  replace hg := hg.mono hleo
  replace ho := ho.mono hleo
  replace hr := hr.mono hleo
  refine hK6 _ _ ?_
  refine n_q hF hS (q_move rfl) rfl (fun a hF => ?_)
  refine n_q hF hS (q_extract (i := 0) rfl rfl) rfl (fun a hF => ?_)
  refine n_q hF hS (q_extract (i := 1) rfl rfl) rfl (fun a hF => ?_)
  refine n_q hF hS (q_assign rfl) rfl (fun a hF => ?_)
  refine n_q hF hS (q_assign rfl) rfl (fun a hF => ?_)
  refine hK5 _ _ ?_
  refine c_seq (fun K7 hK7 => ?_)
  refine c_reg ?_
  refine n_q hF hS (q_move rfl) rfl (fun a hF => ?_)
  refine n_q hF hS (q_neI rfl rfl) rfl (fun a hF => ?_)
  refine hK7 _ _ ?_
  refine spn hF (s := 17) rfl (fun hc17 hF => ?_) (fun hc17 hF => ?_)
  · refine c_true hF rfl ?_
    refine c_seq (fun K8 hK8 => ?_)
    refine c_reg ?_
    refine n_q hF hS (q_load0 ty39 rfl (i := 0) rfl (by simp [dc_length, Hd.c_len, En.c_len, List.length_replicate, List.length_cons, List.length_nil, List.length_append]) rfl) rfl (fun a hF => ?_)
    refine n_q hF hS (q_move rfl) rfl (fun a hF => ?_)
    refine n_l rfl (fun K9 hK9 => l_store0A ty39 hF hS rfl rfl (i := 0) rfl (by simp [dc_length, Hd.c_len, En.c_len, List.length_replicate, List.length_cons, List.length_nil, List.length_append]) (by simp [dc_length, Hd.c_len, En.c_len, List.length_replicate, List.length_cons, List.length_nil, List.length_append]) (by first | exact dc_all1 _ | rfl | simp [all1]) (fun a w hF hS => hK9 _ _ ?_))
    refine n_q hF hS (q_assign rfl) rfl (fun a hF => ?_)
    refine hK8 _ _ ?_
    refine c_ret ?_
    repeat (first | refine ret_then ?_ | refine ret_blk ?_)
    refine c_ret' (P := Tryd.prog) (fn := Tryd.f15) rfl hF hS (.cell0 rfl ty39 (i := 0) rfl (by simp [dc_length, Hd.c_len, En.c_len, List.length_replicate, List.length_cons, List.length_nil, List.length_append]) rfl (.tmp rfl .nil)) ⟨_, rfl, ?_⟩
    have he : signE s f es.length = openE s f := by rw [signE_def, if_neg hc17]
    refine ⟨?_, hS.same⟩
    rw [signH_def, if_neg (by rw [List.length_map, he]; exact hc17), he]; rfl
  · refine c_false hF rfl ?_
    refine wp_skip ?_
    refine hK4 _ _ ?_
    refine c_seq (fun K10 hK10 => ?_)
    refine c_seq (fun K11 hK11 => ?_)
    refine c_reg ?_
    refine n_q hF hS (q_move rfl) rfl (fun a hF => ?_)
    refine n_q hF hS (q_len Tryd.underlying31 rfl rfl) rfl (fun a hF => ?_)
    refine n_q hF hS (q_gtr rfl rfl) rfl (fun a hF => ?_)
    refine hK11 _ _ ?_
    refine spd hF (s := 22) rfl (fun hc22 hF => ?_) (fun hc22 hF => ?_)
    · refine c_true hF rfl ?_
      refine c_seq (fun K12 hK12 => ?_)
      refine c_reg ?_
      refine n_q hF hS (q_load0 ty39 rfl (i := 0) rfl (by simp [dc_length, Hd.c_len, En.c_len, List.length_replicate, List.length_cons, List.length_nil, List.length_append]) rfl) rfl (fun a hF => ?_)
      refine n_l rfl (fun K13 hK13 => l_store0A ty39 hF hS rfl rfl (i := 0) rfl (by simp [dc_length, Hd.c_len, En.c_len, List.length_replicate, List.length_cons, List.length_nil, List.length_append]) (by simp [dc_length, Hd.c_len, En.c_len, List.length_replicate, List.length_cons, List.length_nil, List.length_append]) (by first | exact dc_all1 _ | rfl | simp [all1]) (fun a w hF hS => hK13 _ _ ?_))
      refine n_q hF hS (q_assign rfl) rfl (fun a hF => ?_)
      refine hK12 _ _ ?_
      refine c_ret ?_
      repeat (first | refine ret_then ?_ | refine ret_blk ?_)
      refine c_ret' (P := Tryd.prog) (fn := Tryd.f15) rfl hF hS (.cell0 rfl ty39 (i := 0) rfl (by simp [dc_length, Hd.c_len, En.c_len, List.length_replicate, List.length_cons, List.length_nil, List.length_append]) rfl (.tmp rfl .nil)) ⟨_, rfl, ?_⟩
      have he : signE s f es.length = 1 := by rw [signE_def, if_pos hc17, if_pos (by omega)]
      refine ⟨?_, hS.same⟩
      rw [signH_def, if_neg (by rw [List.length_map, he]; decide), he]; rfl
    · refine c_false hF rfl ?_
      refine wp_skip ?_
      refine hK10 _ _ ?_
      refine c_seq (fun K14 hK14 => ?_)
      refine rw_ hF (s := 2) (u := .slice al es.length cl) rfl rfl (fun hF => ?_)
      refine r_start (fun L => L) [11] mo hS (fun w hS => ?_)
      refine r_q (i := 0) rfl (by kernel_rfl) (by kernel_rfl) rfl (by kernel_rfl) (fun _ _ _ _ h => h) hF hS (q_fieldAddr fl26_0 (by decide) rfl) rfl (fun a hF => ?_)
      refine r_q (i := 1) rfl (by kernel_rfl) (by kernel_rfl) rfl (by kernel_rfl) (fun _ _ _ _ h => h) hF hS (q_load ty3 rfl (i := 1) rfl rfl rfl (show ldv false 1 s.c 0 = some (.int .i64 s.id) from rfl)) rfl (fun a hF => ?_)
      refine r_q (i := 2) rfl (by kernel_rfl) (by kernel_rfl) rfl (by kernel_rfl) (fun _ _ _ _ h => h) hF hS (q_move rfl) rfl (fun a hF => ?_)
      refine r_q (i := 3) rfl (by kernel_rfl) (by kernel_rfl) rfl (by kernel_rfl) (fun _ _ _ _ h => h) hF hS (q_move rfl) rfl (fun a hF => ?_)
      refine r_q (i := 4) rfl (by kernel_rfl) (by kernel_rfl) rfl (by kernel_rfl) (fun _ _ _ _ h => h) hF hS (q_len Tryd.underlying31 rfl rfl) rfl (fun a hF => ?_)
      refine r_q (i := 5) rfl (by kernel_rfl) (by kernel_rfl) rfl (by kernel_rfl) (fun _ _ _ _ h => h) hF hS (q_move rfl) rfl (fun a hF => ?_)
      refine r_q (i := 6) rfl (by kernel_rfl) (by kernel_rfl) rfl (by kernel_rfl) (fun _ _ _ _ h => h) hF hS (q_move rfl) rfl (fun a hF => ?_)
      refine r_one (i := 7) (by kernel_rfl) ?_
      have hsub := hS.sub
      refine r_li rfl rfl (fun K15 hK15 => l_call en50 hF rfl rfl (digestsS_c al es.length cl _ _ hS.fz) (fun v15 w hR a hF => ?_))
      obtain ⟨bq, H4, rfl, hle4, hbq, hc⟩ := hR
      replace hS := hS.call hc
      replace hg := hg.mono hle4
      replace hr := hr.mono hle4
      refine hK15 _ _ _ hS (fun _ h => h.forget hsub hle4) ?_
      refine r_one (i := 8) (by kernel_rfl) ?_
      have hsub := hS.sub
      refine r_li rfl rfl (fun K16 hK16 => l_call en49 hF rfl rfl (Collect_c es al cl hn bq _ _ hS.fz hbq hr) (fun v16 w hR a hF => ?_))
      obtain ⟨ad, cp, Lx, rfl, hO, hc⟩ := hR
      obtain ⟨H5, hle5, hS5, hr5⟩ := hO.freeze (hS.call hc)
      replace hS := hS5
      replace hg := hg.mono hle5
      have hdr : RdL H5 ad 32 (dgE (es.map En.dg)) := RdL.of_dg (by rw [List.length_map]; exact hr5)
      refine rw_ hF (s := 32) (u := .slice ad (es.map En.dg).length cp) rfl (by rw [List.length_map]) (fun hF => ?_)
      refine hK16 _ _ _ hS (fun _ h => h.forget hsub hle5) ?_
      refine r_one (i := 9) (by kernel_rfl) ?_
      have hsub := hS.sub
      refine r_li rfl rfl (fun K17 hK17 => l_call en18 hF rfl rfl (SChain_c f (es.map En.dg) ad cp (by rw [List.length_map]; exact hn) _ _ hS.fz hg hdr) (fun v17 w hR a hF => ?_))
      obtain ⟨rfl, hc⟩ := hR
      replace hS := hS.call0 hc
      refine rw_ hF (s := 28) (u := .int .i64 ((es.map En.dg).length : Int)) rfl (by rw [List.length_map]) (fun hF => ?_)
      refine hK17 _ _ _ hS (fun _ h => h) ?_
      refine r_q (i := 10) rfl (by kernel_rfl) (by kernel_rfl) rfl (by kernel_rfl) (fun _ _ _ _ h => h) hF hS (q_build (P := Tryd.prog) (T := 39) (cs := Hd.c ⟨s.id, f, ((es.map En.dg).length : Int), chainN f (es.map En.dg), 0, 0⟩) zr39 pl39 rfl (bld_hd _ _ _ _)) rfl (fun a hF => ?_)
      refine r_one (i := 11) (by kernel_rfl) ?_
      refine r_lL rfl rfl rfl (fun K18 hK18 => l_store0A ty39 hF hS rfl rfl (i := 0) rfl (by simp [dc_length, Hd.c_len, En.c_len, List.length_replicate, List.length_cons, List.length_nil, List.length_append]) (by simp [dc_length, Hd.c_len, En.c_len, List.length_replicate, List.length_cons, List.length_nil, List.length_append]) (Hd.c_all1 _) (fun a w hF hS => hK18 _ _ ?_))
      refine r_done (by kernel_rfl) ?_
      refine hK14 _ _ ?_
      refine c_seq (fun K19 hK19 => ?_)
      refine r_start (fun L => L) [6, 7, 8, 9] mo hS (fun w hS => ?_)
      refine r_q (i := 0) rfl (by kernel_rfl) (by kernel_rfl) rfl (by kernel_rfl) (fun _ _ _ _ h => h) hF hS (q_fieldAddr fl26_1 (by decide) rfl) rfl (fun a hF => ?_)
      refine r_q (i := 1) rfl (by kernel_rfl) (by kernel_rfl) rfl (by kernel_rfl) (fun _ _ _ _ h => h) hF hS (q_load ty3 rfl (i := 1) rfl rfl rfl (show ldv false 1 s.c 1 = some (.int .i64 s.priv) from rfl)) rfl (fun a hF => ?_)
      refine r_q (i := 2) rfl (by kernel_rfl) (by kernel_rfl) rfl (by kernel_rfl) (fun _ _ _ _ h => h) hF hS (q_load0 ty39 rfl (i := 0) rfl (by simp [dc_length, Hd.c_len, En.c_len, List.length_replicate, List.length_cons, List.length_nil, List.length_append]) rfl) rfl (fun a hF => ?_)
      refine r_one (i := 3) (by kernel_rfl) ?_
      have hsub := hS.sub
      refine r_li rfl rfl (fun K20 hK20 => l_call en52 hF rfl rfl (message_c ⟨s.id, f, ((es.map En.dg).length : Int), chainN f (es.map En.dg), 0, 0⟩ _ _ hS.fz hg) (fun v20 w hR a hF => ?_))
      obtain ⟨ad6, H6, rfl, hle6, hr6, hc⟩ := hR
      replace hS := hS.call hc
      replace hg := hg.mono hle6
      refine hK20 _ _ _ hS (fun _ h => h.forget hsub hle6) ?_
      refine r_one (i := 4) (by kernel_rfl) ?_
      have hsub := hS.sub
      refine r_li rfl rfl (fun K21 hK21 => l_call en51 hF rfl rfl (Sign_c s.priv (msgN ⟨s.id, f, ((es.map En.dg).length : Int), chainN f (es.map En.dg), 0, 0⟩).l ad6 32 32 (by decide) (by decide) _ _ hS.fz hg hr6) (fun v21 w hR a hF => ?_))
      obtain ⟨rfl, hc⟩ := hR
      replace hS := hS.call0 hc
      refine hK21 _ _ _ hS (fun _ h => h) ?_
      refine r_q (i := 5) rfl (by kernel_rfl) (by kernel_rfl) rfl (by kernel_rfl) (fun _ _ _ _ h => h) hF hS (q_move rfl) rfl (fun a hF => ?_)
      refine r_qL (i := 6) rfl (by kernel_rfl) (by kernel_rfl) rfl (by kernel_rfl) (fun _ _ _ _ h => h) hF (q_extract (i := 0) rfl rfl) rfl (fun a hF => ?_)
      refine r_qL (i := 7) rfl (by kernel_rfl) (by kernel_rfl) rfl (by kernel_rfl) (fun _ _ _ _ h => h) hF (q_extract (i := 1) rfl rfl) rfl (fun a hF => ?_)
      refine r_qL (i := 8) rfl (by kernel_rfl) (by kernel_rfl) rfl (by kernel_rfl) (fun _ _ _ _ h => h) hF (q_fieldAddr fl39_4 (by decide) rfl) rfl (fun a hF => ?_)
      refine r_one (i := 9) (by kernel_rfl) ?_
      refine r_lL rfl rfl rfl (fun K22 hK22 => l_storeA ty37 hF hS rfl rfl (i := 0) rfl rfl (by simp [dc_length, Hd.c_len, En.c_len, List.length_replicate, List.length_cons, List.length_nil, List.length_append]) (by first | exact dc_all1 _ | rfl | simp [all1]) (fun a w hF hS => hK22 _ _ ?_))
      refine r_done (by kernel_rfl) ?_
      refine hK19 _ _ ?_
      refine c_seq (fun K23 hK23 => ?_)
      refine c_reg ?_
      try dsimp only [List.set] at hS
      rw [Hd.set_sig] at hS
      refine n_q hF hS (q_load0 ty39 rfl (i := 0) rfl (by simp [dc_length, Hd.c_len, En.c_len, List.length_replicate, List.length_cons, List.length_nil, List.length_append]) rfl) rfl (fun a hF => ?_)
      refine n_l rfl (fun K24 hK24 => l_store0A ty39 hF hS rfl rfl (i := 0) rfl (by simp [dc_length, Hd.c_len, En.c_len, List.length_replicate, List.length_cons, List.length_nil, List.length_append]) (by simp [dc_length, Hd.c_len, En.c_len, List.length_replicate, List.length_cons, List.length_nil, List.length_append]) (Hd.c_all1 _) (fun a w hF hS => hK24 _ _ ?_))
      refine n_q hF hS (q_assign rfl) rfl (fun a hF => ?_)
      refine hK23 _ _ ?_
      refine c_ret ?_
      repeat (first | refine ret_then ?_ | refine ret_blk ?_)
      refine c_ret' (P := Tryd.prog) (fn := Tryd.f15) rfl hF hS (.cell0 rfl ty39 (i := 0) rfl (by simp [dc_length, Hd.c_len, En.c_len, List.length_replicate, List.length_cons, List.length_nil, List.length_append]) rfl (.tmp rfl .nil)) ⟨_, rfl, ?_⟩
      have he : signE s f es.length = 0 := by rw [signE_def, if_pos hc17, if_neg (by omega)]
      refine ⟨?_, hS.same⟩
      rw [signH_def, if_pos (by rw [List.length_map, he]), he]
      rfl
end Go.Proofs.YtneokajhmonpaaaDoor
/-! []byte of a constant: the row gets the run-time's mark. -/
namespace Go.W
open Go Go.RowKit
def frO (H : Froz) (b : Nat) (o : Obj) : Froz := fun k => if k = b then some o else H k
theorem St.mark {B : Base} {H : Froz} {L : List Blk} {w w' : World} {b : Nat} {cs : List Value} {T : TypeId} {o : Obj} (h : St B H (⟨b, cs, T⟩ :: L) w) (ho : Only b o w w') : St B (frO H b o) L w' where
  os := ho.os.trans h.os
  tape := ho.tape.trans h.tape
  output := ho.output.trans h.output
  size := by rw [ho.size]; exact h.size
  old k hk hm := by
    refine (ho.other k ?_).trans (h.old k hk hm)
    rintro rfl
    rcases (h.mine _ List.mem_cons_self).1 with h1 | h1
    · exact absurd h1 (by simp only []; omega)
    · exact hm h1
  froz k o' hk := by
    simp only [frO] at hk
    split at hk
    · rename_i e; subst e; rw [← hk]; exact ho.at_
    · rename_i e; exact (ho.other k e).trans (h.froz k o' hk)
  sub k o' hk := by
    simp only [frO]
    split
    · rename_i e
      have h1 := h.sub k o' hk
      have h2 := (h.mine _ List.mem_cons_self).2
      simp only [] at h2
      rw [← e, h1] at h2; cases h2
    · exact h.sub k o' hk
  fresh k o' hk := by
    simp only [frO] at hk
    split at hk
    · rename_i e; rw [e]; exact .inr (h.mine _ List.mem_cons_self).1
    · exact h.fresh k o' hk
  own x hx := by
    have hne : x.b ≠ b := fun e => (List.pairwise_cons.1 h.nodup).1 x hx e.symm
    exact (ho.other x.b hne).trans (h.own x (List.mem_cons_of_mem _ hx))
  mine x hx := by
    have hne : x.b ≠ b := fun e => (List.pairwise_cons.1 h.nodup).1 x hx e.symm
    refine ⟨(h.mine x (List.mem_cons_of_mem _ hx)).1, ?_⟩
    simp only [frO]
    rw [if_neg hne]
    exact (h.mine x (List.mem_cons_of_mem _ hx)).2
  nodup := (List.pairwise_cons.1 h.nodup).2
theorem St.le_mark {B : Base} {H : Froz} {L : List Blk} {w : World} {b : Nat} {cs : List Value} {T : TypeId} (h : St B H (⟨b, cs, T⟩ :: L) w) (o : Obj) : Le H (frO H b o) := by
  intro k o' hk
  simp only [frO]
  split
  · rename_i e
    have h2 := (h.mine _ List.mem_cons_self).2
    simp only [] at h2
    rw [← e, hk] at h2; cases h2
  · exact hk
theorem frO_rd (H : Froz) (b : Nat) (cs : List Value) (T : TypeId) (fr : Nat × Nat) (n k : Nat) (hl : cs.length = n * k) : RdS (frO H b (.cells cs.toArray T fr)) (some ⟨b, 0, none⟩) n k cs :=
  ⟨hl, fun _ => ⟨b, 0, rfl, fun j v hv => by simp [hcell, frO, hv]⟩⟩
theorem Only.freeze {w : World} {b n : Nat} {cs : Array Value} {T : TypeId} (h : w.heap[b]? = some (.cells cs T (0, 0))) : Only b (.cells cs T (n, n + 1)) w (w.freeze ⟨b, n, none⟩ 1) := by
  have hlt := (Array.getElem?_eq_some_iff.1 h).1
  unfold World.freeze
  rw [if_neg (by decide)]
  refine ⟨rfl, rfl, rfl, by simp, ?_, fun k hk => ?_⟩
  · simp [Array.getElem?_modify, h]
  · simp [Array.getElem?_modify, Ne.symm hk]
section
variable {P : Program} {ops : Array Oper} {Q : Exit → Act → World → Prop} {n d : Nat} {a : Act} {F : Fr} {w : World} {B : Base} {H : Froz} {L : List Blk}
  {ty T E : TypeId} {pos : String} {after : Array Edge} {x : Operand} {K : Act → World → Prop} {g : Option (Nat × Bool)}
theorem l_convMark {b c m : Nat} {cs : List Value} {T' : TypeId} (h1 : P.underlying T = some (.slice E)) (h2 : P.underlying E = some (.int .u8)) (hF : Has n a F) (hS : St B H (⟨b, cs, T'⟩ :: L) w) (hx : oev F x = some (.slice (some ⟨b, 0, none⟩) m c)) (hd : Nat.blt d n = true) (hl : cs.length = m)
    (k : ∀ a' w' H', Le H H' → RdS H' (some ⟨b, 0, none⟩) m 1 cs → Has n a' ((d, .slice (some ⟨b, 0, none⟩) m c) :: F) → St B H' L w' → K a' w') : (⟨some d, .convert T T x, ty, pos, after, g⟩ : Oper).wp P a w K Q := by
  have ho := hS.own _ List.mem_cons_self
  simp only [] at ho
  have hsh : w.shape? b = some (T', cs.toArray.size) := by unfold World.shape?; rw [ho]
  unfold Oper.wp
  have hrun : (convert T T (.slice (some ⟨b, 0, none⟩) m c)).run P w = .ok (.slice (some ⟨b, 0, none⟩) m c) (w.freeze ⟨b, cs.length, none⟩ 1) := by
    simp [convert, run_underlying h1, run_underlying h2, markStringish, hsh]
  have hon := Only.freeze (n := cs.length) ho
  simp only [execOp, hF.eval hx, Sem.run_bind, hrun, Result.andThen_ok, Sem.run_pure]
  exact k _ _ _ (hS.le_mark _) (frO_rd H b cs T' _ m 1 (by omega)) (hF.put hd _) (hS.mark hon)
end
end Go.W
namespace Go.Proofs.YtneokajhmonpaaaDoor
open Go Go.RowKit Go.W
set_option maxRecDepth 10000
namespace T37
theorem en14 : enS Tryd.prog 14 = true := by kernel_rfl
theorem en15 : enS Tryd.prog 15 = true := by kernel_rfl
theorem en16 : enS Tryd.prog 16 = true := by kernel_rfl
theorem en17 : enS Tryd.prog 17 = true := by kernel_rfl
theorem en20 : enS Tryd.prog 20 = true := by kernel_rfl
theorem en21 : enS Tryd.prog 21 = true := by kernel_rfl
theorem en23 : enS Tryd.prog 23 = true := by kernel_rfl
theorem en26 : enS Tryd.prog 26 = true := by kernel_rfl
theorem en43 : enS Tryd.prog 43 = true := by kernel_rfl
theorem fl39_2 : flS Tryd.prog 39 2 = some (2, 1) := by kernel_rfl
theorem fl39_3 : flS Tryd.prog 39 3 = some (3, 32) := by kernel_rfl
theorem fl48_2 : flS Tryd.prog 48 2 = some (33, 1) := by kernel_rfl
theorem gu35 : guS Tryd.prog 35 = true := by kernel_rfl
theorem ty3 : tyS Tryd.prog 3 = some (false, 1) := by kernel_rfl
theorem ty5 : tyS Tryd.prog 5 = some (false, 1) := by kernel_rfl
theorem ty26 : tyS Tryd.prog 26 = some (true, 3) := by kernel_rfl
theorem ty35 : tyS Tryd.prog 35 = some (true, 32) := by kernel_rfl
theorem ty39 : tyS Tryd.prog 39 = some (true, 37) := by kernel_rfl
theorem ty46 : tyS Tryd.prog 46 = some (false, 1) := by kernel_rfl
theorem ty48 : tyS Tryd.prog 48 = some (true, 35) := by kernel_rfl
theorem zr5 : zrS Tryd.prog 5 = some [.int .u8 0] := by kernel_rfl
theorem zr26 : zrS Tryd.prog 26 = some [.int .i64 0, .int .i64 0, .slice none 0 0] := by kernel_rfl
theorem zr39 : zrS Tryd.prog 39 = some [.int .i64 0, .int .i64 0, .int .i64 0, .int .u8 0, .int .u8 0, .int .u8 0, .int .u8 0, .int .u8 0, .int .u8 0, .int .u8 0, .int .u8 0, .int .u8 0, .int .u8 0, .int .u8 0, .int .u8 0, .int .u8 0, .int .u8 0, .int .u8 0, .int .u8 0, .int .u8 0, .int .u8 0, .int .u8 0, .int .u8 0, .int .u8 0, .int .u8 0, .int .u8 0, .int .u8 0, .int .u8 0, .int .u8 0, .int .u8 0, .int .u8 0, .int .u8 0, .int .u8 0, .int .u8 0, .int .u8 0, .int .i64 0, .int .i64 0] := by kernel_rfl
theorem mo : Tryd.prog.follows .mixedOrders = true := by kernel_rfl
end T37
open T37

set_option maxHeartbeats 1600000 in
theorem sane30_c (w : World) (H : Froz) (hz : Fz H w) (hg : Gl 0 1 H) :
    CallsR Tryd.prog 11 [] w fun v w' => v = .bool true ∧ St ⟨w, H, []⟩ H [] w' := by
  refine calls_start Tryd.func11 rfl Tryd.ntmps11 rfl (fun a hF => ?_)
  have hS := St.start w H hz
  refine c_seq (fun K1 hK1 => ?_)
  refine c_reg ?_
  refine n_q hF hS (q_assign rfl) rfl (fun a hF => ?_)
  refine hK1 _ _ ?_
  refine c_seq (fun K2 hK2 => ?_)
  refine c_reg ?_
  refine n_l rfl (fun K3 hK3 => l_call en43 hF rfl rfl (New_c 1 7 _ _ hS.fz) (fun v3 w hR a hF => ?_))
  obtain ⟨hv, hc⟩ := hR
  rw [newP_ok (by decide) (by decide)] at hv
  subst hv
  replace hS := hS.call0 hc
  have gs : GoodS H ⟨1, 7, none, 0, []⟩ 1 7 [] := GoodS.new_ 1 7 (by rw [newP_ok (by decide) (by decide)])
  refine hK3 _ _ ?_
  refine n_q hF hS (q_move rfl) rfl (fun a hF => ?_)
  refine n_q hF hS (q_extract (i := 0) rfl rfl) rfl (fun a hF => ?_)
  refine n_q hF hS (q_extract (i := 1) rfl rfl) rfl (fun a hF => ?_)
  refine n_l rfl (fun K4 hK4 => l_alloc hF hS zr26 rfl (fun a w b1 hF hS => hK4 _ _ ?_))
  refine n_l rfl (fun K5 hK5 => l_store0A ty26 hF hS rfl rfl (i := 0) rfl rfl rfl rfl (fun a w hF hS => hK5 _ _ ?_))
  refine n_q hF hS (q_assign rfl) rfl (fun a hF => ?_)
  refine hK2 _ _ ?_
  refine c_seq (fun K6 hK6 => ?_)
  refine c_reg ?_
  refine n_l rfl (fun K7 hK7 => l_call en43 hF rfl rfl (New_c 4 1 _ _ hS.fz) (fun v7 w hR a hF => ?_))
  obtain ⟨hv, hc⟩ := hR
  rw [newP41] at hv
  subst hv
  replace hS := hS.call0 hc
  refine hK7 _ _ ?_
  refine n_q hF hS (q_move rfl) rfl (fun a hF => ?_)
  refine n_q hF hS (q_extract (i := 0) rfl rfl) rfl (fun a hF => ?_)
  refine n_q hF hS (q_extract (i := 1) rfl rfl) rfl (fun a hF => ?_)
  refine n_l rfl (fun K8 hK8 => l_alloc hF hS zr26 rfl (fun a w b2 hF hS => hK8 _ _ ?_))
  refine n_l rfl (fun K9 hK9 => l_store0A ty26 hF hS rfl rfl (i := 0) rfl rfl rfl rfl (fun a w hF hS => hK9 _ _ ?_))
  refine n_q hF hS (q_assign rfl) rfl (fun a hF => ?_)
  refine hK6 _ _ ?_
  refine c_seq (fun K10 hK10 => ?_)
  refine c_reg ?_
  refine n_q hF hS (q_load0 ty26 rfl (i := 1) rfl rfl rfl) rfl (fun a hF => ?_)
  refine n_l rfl (fun K11 hK11 => l_buildO (els := [[_]]) Tryd.underlying46 ty5 zr5 hF hS rfl rfl rfl (by simp [Value.cells, dc_length, Hd.c_len, En.c_len, List.length_replicate, List.length_cons, List.length_nil, List.length_append]) rfl rfl rfl (fun a w b3 hF hS => hK11 _ _ ?_))
  refine n_l rfl (fun K12 hK12 => l_convMark Tryd.underlying46 Tryd.underlying5 hF hS rfl rfl rfl (fun a w H_r3_2 hle_r3_2 r3_2 hF hS => ?_))
  replace hg := hg.mono hle_r3_2
  replace gs := gs.mono hle_r3_2
  refine hK12 _ _ ?_
  refine n_l rfl (fun K13 hK13 => l_call en20 hF rfl rfl (Put_c ⟨1, 7, none, 0, []⟩ 3 4 [97] _ 1 1 (by decide) (by decide) _ _ hS.fz hg gs.ok r3_2) (fun v13 w hR a hF => ?_))
  obtain ⟨x, Hx, hv, hlex, hox, hRx, hc⟩ := hR
  rw [gs.putE, gs.putNo, sane_put0.1, sane_put0.2.1] at hv
  subst hv
  replace hS := hS.call hc
  replace hg := hg.mono hlex
  replace gs := gs.mono hlex
  have gx := gs.put hox hRx sane_put0.1
  rw [sane_put0.2.2] at gx
  refine hK13 _ _ ?_
  refine n_q hF hS (q_move rfl) rfl (fun a hF => ?_)
  refine n_q hF hS (q_extract (i := 0) rfl rfl) rfl (fun a hF => ?_)
  refine n_q hF hS (q_extract (i := 1) rfl rfl) rfl (fun a hF => ?_)
  refine n_q hF hS (q_extract (i := 2) rfl rfl) rfl (fun a hF => ?_)
  refine n_l rfl (fun K14 hK14 => l_alloc hF hS zr26 rfl (fun a w b4 hF hS => hK14 _ _ ?_))
  refine n_l rfl (fun K15 hK15 => l_store0A ty26 hF hS rfl rfl (i := 0) rfl rfl rfl rfl (fun a w hF hS => hK15 _ _ ?_))
  refine n_q hF hS (q_assign rfl) rfl (fun a hF => ?_)
  refine n_q hF hS (q_assign rfl) rfl (fun a hF => ?_)
  refine hK10 _ _ ?_
  refine c_seq (fun K16 hK16 => ?_)
  refine c_reg ?_
  refine n_q hF hS (q_load0 ty26 rfl (i := 0) rfl rfl rfl) rfl (fun a hF => ?_)
  refine n_l rfl (fun K17 hK17 => l_buildO (els := [[_]]) Tryd.underlying46 ty5 zr5 hF hS rfl rfl rfl (by simp [Value.cells, dc_length, Hd.c_len, En.c_len, List.length_replicate, List.length_cons, List.length_nil, List.length_append]) rfl rfl rfl (fun a w b5 hF hS => hK17 _ _ ?_))
  refine n_l rfl (fun K18 hK18 => l_convMark Tryd.underlying46 Tryd.underlying5 hF hS rfl rfl rfl (fun a w H_r4_2 hle_r4_2 r4_2 hF hS => ?_))
  replace hg := hg.mono hle_r4_2
  replace gs := gs.mono hle_r4_2
  replace gx := gx.mono hle_r4_2
  refine hK18 _ _ ?_
  refine n_l rfl (fun K19 hK19 => l_call en20 hF rfl rfl (Put_c x 3 4 [97] _ 1 1 (by decide) (by decide) _ _ hS.fz hg gx.ok r4_2) (fun v19 w hR a hF => ?_))
  obtain ⟨y, Hy, hv, hley, hoy, hRy, hc⟩ := hR
  rw [gx.putE, gx.putNo, (sane_put1 _ _).1, (sane_put1 _ _).2.1] at hv
  subst hv
  replace hS := hS.call hc
  replace hg := hg.mono hley
  replace gs := gs.mono hley
  replace gx := gx.mono hley
  have gy := gx.put hoy hRy (sane_put1 _ _).1
  rw [(sane_put1 _ _).2.2] at gy
  refine hK19 _ _ ?_
  refine n_q hF hS (q_move rfl) rfl (fun a hF => ?_)
  refine n_q hF hS (q_extract (i := 0) rfl rfl) rfl (fun a hF => ?_)
  refine n_q hF hS (q_extract (i := 1) rfl rfl) rfl (fun a hF => ?_)
  refine n_q hF hS (q_extract (i := 2) rfl rfl) rfl (fun a hF => ?_)
  refine n_l rfl (fun K20 hK20 => l_alloc hF hS zr26 rfl (fun a w b6 hF hS => hK20 _ _ ?_))
  refine n_l rfl (fun K21 hK21 => l_store0A ty26 hF hS rfl rfl (i := 0) rfl rfl rfl rfl (fun a w hF hS => hK21 _ _ ?_))
  refine n_q hF hS (q_assign rfl) rfl (fun a hF => ?_)
  refine n_q hF hS (q_assign rfl) rfl (fun a hF => ?_)
  refine hK16 _ _ ?_
  refine c_seq (fun K22 hK22 => ?_)
  refine c_reg ?_
  refine n_q hF hS (q_load0 ty26 rfl (i := 3) rfl rfl rfl) rfl (fun a hF => ?_)
  refine n_l rfl (fun K23 hK23 => l_call en20 hF rfl rfl (Put_c ⟨1, 7, none, 0, []⟩ 0 8 [] _ 0 0 (by decide) (by decide) _ _ hS.fz hg gs.ok (RdS.nil _ _ _)) (fun v23 w hR a hF => ?_))
  obtain ⟨i, Hi, hv, hlei, hoi, hRi, hc⟩ := hR
  rw [gs.putE, sane_bad] at hv
  subst hv
  replace hS := hS.call hc
  replace hg := hg.mono hlei
  replace gs := gs.mono hlei
  replace gx := gx.mono hlei
  replace gy := gy.mono hlei
  refine hK23 _ _ ?_
  refine n_q hF hS (q_move rfl) rfl (fun a hF => ?_)
  refine n_q hF hS (q_extract (i := 0) rfl rfl) rfl (fun a hF => ?_)
  refine n_q hF hS (q_extract (i := 1) rfl rfl) rfl (fun a hF => ?_)
  refine n_q hF hS (q_extract (i := 2) rfl rfl) rfl (fun a hF => ?_)
  refine n_l rfl (fun K24 hK24 => l_alloc hF hS zr26 rfl (fun a w b7 hF hS => hK24 _ _ ?_))
  refine n_l rfl (fun K25 hK25 => l_store0A ty26 hF hS rfl rfl (i := 0) rfl rfl rfl rfl (fun a w hF hS => hK25 _ _ ?_))
  refine n_q hF hS (q_assign rfl) rfl (fun a hF => ?_)
  refine n_q hF hS (q_assign rfl) rfl (fun a hF => ?_)
  refine hK22 _ _ ?_
  refine c_seq (fun K26 hK26 => ?_)
  refine c_reg ?_
  refine n_q hF hS (q_load0 ty26 rfl (i := 2) rfl rfl rfl) rfl (fun a hF => ?_)
  refine n_l rfl (fun K27 hK27 => l_call en14 hF rfl rfl (Fetch_c x 3 1 _ _ hS.fz hg gx.ok) (fun v27 w hR a hF => ?_))
  obtain ⟨es, al, cpl, H6, hv, hle6, hkl, hrl, hol, hcl, hc⟩ := hR
  rw [gx.fetchE, sane_fetch.1] at hv
  subst hv
  replace hS := hS.call hc
  replace hg := hg.mono hle6
  replace gs := gs.mono hle6
  replace gx := gx.mono hle6
  replace gy := gy.mono hle6
  rw [gx.fetchL, sane_fetch.2] at hkl
  obtain ⟨e1, rfl, he1⟩ := one_of hkl
  have hb97 : e1.bs = [97] := congrArg (·.2.2.1) he1
  refine hK27 _ _ ?_
  refine n_q hF hS (q_move rfl) rfl (fun a hF => ?_)
  refine n_q hF hS (q_extract (i := 0) rfl rfl) rfl (fun a hF => ?_)
  refine n_q hF hS (q_extract (i := 1) rfl rfl) rfl (fun a hF => ?_)
  refine n_q hF hS (q_assign rfl) rfl (fun a hF => ?_)
  refine n_q hF hS (q_assign rfl) rfl (fun a hF => ?_)
  refine hK26 _ _ ?_
  refine c_seq (fun K28 hK28 => ?_)
  refine c_reg ?_
  refine n_q hF hS (q_load0 ty26 rfl (i := 2) rfl rfl rfl) rfl (fun a hF => ?_)
  refine n_l rfl (fun K29 hK29 => l_call en23 hF rfl rfl (Delete_c x 3 1 _ _ hS.fz hg gx.ok) (fun v29 w hR a hF => ?_))
  obtain ⟨d, H7, hv, hle7, hod, hRd, hc⟩ := hR
  rw [gx.delE, sane_del.1] at hv
  subst hv
  replace hS := hS.call hc
  replace hg := hg.mono hle7
  replace gs := gs.mono hle7
  replace gx := gx.mono hle7
  replace gy := gy.mono hle7
  replace hrl := hrl.mono hle7
  replace hol := hol.mono hle7
  have gd := gx.del hod hRd sane_del.1
  rw [sane_del.2] at gd
  refine hK29 _ _ ?_
  refine n_q hF hS (q_move rfl) rfl (fun a hF => ?_)
  refine n_q hF hS (q_extract (i := 0) rfl rfl) rfl (fun a hF => ?_)
  refine n_q hF hS (q_extract (i := 1) rfl rfl) rfl (fun a hF => ?_)
  refine n_l rfl (fun K30 hK30 => l_alloc hF hS zr26 rfl (fun a w b8 hF hS => hK30 _ _ ?_))
  refine n_l rfl (fun K31 hK31 => l_store0A ty26 hF hS rfl rfl (i := 0) rfl rfl rfl rfl (fun a w hF hS => hK31 _ _ ?_))
  refine n_q hF hS (q_assign rfl) rfl (fun a hF => ?_)
  refine hK28 _ _ ?_
  refine c_seq (fun K32 hK32 => ?_)
  refine c_reg ?_
  refine n_q hF hS (q_load0 ty26 rfl (i := 0) rfl rfl rfl) rfl (fun a hF => ?_)
  refine n_l rfl (fun K33 hK33 => l_buildO (els := [[_]]) Tryd.underlying46 ty5 zr5 hF hS rfl rfl rfl (by simp [Value.cells, dc_length, Hd.c_len, En.c_len, List.length_replicate, List.length_cons, List.length_nil, List.length_append]) rfl rfl rfl (fun a w b9 hF hS => hK33 _ _ ?_))
  refine n_l rfl (fun K34 hK34 => l_convMark Tryd.underlying46 Tryd.underlying5 hF hS rfl rfl rfl (fun a w H_r8_2 hle_r8_2 r8_2 hF hS => ?_))
  replace hg := hg.mono hle_r8_2
  replace gs := gs.mono hle_r8_2
  replace gx := gx.mono hle_r8_2
  replace gy := gy.mono hle_r8_2
  replace hrl := hrl.mono hle_r8_2
  replace hol := hol.mono hle_r8_2
  replace gd := gd.mono hle_r8_2
  refine hK34 _ _ ?_
  refine n_l rfl (fun K35 hK35 => l_call en20 hF rfl rfl (Put_c d 3 4 [97] _ 1 1 (by decide) (by decide) _ _ hS.fz hg gd.ok r8_2) (fun v35 w hR a hF => ?_))
  obtain ⟨z, Hz, hv, hlez, hoz, hRz, hc⟩ := hR
  rw [gd.putE, gd.putNo, (sane_put1 _ _).1, (sane_put1 _ _).2.1] at hv
  subst hv
  replace hS := hS.call hc
  replace hg := hg.mono hlez
  replace gs := gs.mono hlez
  replace gx := gx.mono hlez
  replace gy := gy.mono hlez
  replace gd := gd.mono hlez
  replace hrl := hrl.mono hlez
  replace hol := hol.mono hlez
  have gz := gd.put hoz hRz (sane_put1 _ _).1
  rw [(sane_put1 _ _).2.2] at gz
  refine hK35 _ _ ?_
  refine n_q hF hS (q_move rfl) rfl (fun a hF => ?_)
  refine n_q hF hS (q_extract (i := 0) rfl rfl) rfl (fun a hF => ?_)
  refine n_q hF hS (q_extract (i := 1) rfl rfl) rfl (fun a hF => ?_)
  refine n_q hF hS (q_extract (i := 2) rfl rfl) rfl (fun a hF => ?_)
  refine n_l rfl (fun K36 hK36 => l_alloc hF hS zr26 rfl (fun a w b10 hF hS => hK36 _ _ ?_))
  refine n_l rfl (fun K37 hK37 => l_store0A ty26 hF hS rfl rfl (i := 0) rfl rfl rfl rfl (fun a w hF hS => hK37 _ _ ?_))
  refine n_q hF hS (q_assign rfl) rfl (fun a hF => ?_)
  refine n_q hF hS (q_assign rfl) rfl (fun a hF => ?_)
  refine hK32 _ _ ?_
  refine c_seq (fun K38 hK38 => ?_)
  refine c_reg ?_
  refine n_q hF hS (q_load0 ty26 rfl (i := 4) rfl rfl rfl) rfl (fun a hF => ?_)
  refine n_q hF hS (q_move rfl) rfl (fun a hF => ?_)
  refine n_l rfl (fun K39 hK39 => l_call en15 hF rfl rfl (StSign_c x 3 [e1] al cpl (by show 1 ≤ 1000000; decide) _ _ hS.fz hg gx.ok hrl) (fun v39 w hR a hF => ?_))
  obtain ⟨hv, hc⟩ := hR
  have hse : signE x 3 [e1].length = 0 := by rw [gx.signE]; rfl
  rw [hse] at hv
  have hver9 := gx.head (f := 3) (ds := [e1].map En.dg) (keyOk_mid (by decide)) (by decide) (by decide) (by show 1 ≤ 65536; decide)
  have hno9 : (signH x 3 ([e1].map En.dg)).no = 1 := by rw [signH_def, if_pos (by rw [List.length_map]; exact hse)]; rfl
  obtain ⟨hd9, hhd9⟩ : ∃ q, q = signH x 3 ([e1].map En.dg) := ⟨_, rfl⟩
  rw [← hhd9] at hv hver9 hno9
  subst hv
  replace hS := hS.call0 hc
  refine hK39 _ _ ?_
  refine n_q hF hS (q_move rfl) rfl (fun a hF => ?_)
  refine n_q hF hS (q_extract (i := 0) rfl rfl) rfl (fun a hF => ?_)
  refine n_q hF hS (q_extract (i := 1) rfl rfl) rfl (fun a hF => ?_)
  refine n_l rfl (fun K40 hK40 => l_alloc hF hS zr39 rfl (fun a w b11 hF hS => hK40 _ _ ?_))
  refine n_l rfl (fun K41 hK41 => l_store0A ty39 hF hS rfl rfl (i := 0) rfl (by simp [dc_length, Hd.c_len, En.c_len, List.length_replicate, List.length_cons, List.length_nil, List.length_append]) (by simp [dc_length, Hd.c_len, En.c_len, List.length_replicate, List.length_cons, List.length_nil, List.length_append]) (Hd.c_all1 _) (fun a w hF hS => hK41 _ _ ?_))
  refine n_q hF hS (q_assign rfl) rfl (fun a hF => ?_)
  refine hK38 _ _ ?_
  refine c_seq (fun K42 hK42 => ?_)
  refine c_reg ?_
  refine n_q hF hS (q_load0 ty26 rfl (i := 7) rfl rfl rfl) rfl (fun a hF => ?_)
  refine n_l rfl (fun K43 hK43 => l_call en15 hF rfl rfl (StSign_c ⟨1, 7, none, 0, []⟩ 3 [] none 0 (by decide) _ _ hS.fz hg gs.ok (RdL.nil _ _ _)) (fun v43 w hR a hF => ?_))
  obtain ⟨hv, hc⟩ := hR
  have hse0 : signE ⟨1, 7, none, 0, []⟩ 3 ([] : List En).length = 0 := by rw [gs.signE]; rfl
  rw [hse0] at hv
  have hno10 : (signH ⟨1, 7, none, 0, []⟩ 3 (([] : List En).map En.dg)).no = 0 := by rw [signH_def, if_pos (by rw [List.length_map]; exact hse0)]; rfl
  have hch10 : (signH ⟨1, 7, none, 0, []⟩ 3 (([] : List En).map En.dg)).ch = tagged tLog [3] := by rw [signH_def, if_pos (by rw [List.length_map]; exact hse0)]; rfl
  obtain ⟨hd10, hhd10⟩ : ∃ q, q = signH ⟨1, 7, none, 0, []⟩ 3 (([] : List En).map En.dg) := ⟨_, rfl⟩
  rw [← hhd10] at hv hno10 hch10
  subst hv
  replace hS := hS.call0 hc
  refine hK43 _ _ ?_
  refine n_q hF hS (q_move rfl) rfl (fun a hF => ?_)
  refine n_q hF hS (q_extract (i := 0) rfl rfl) rfl (fun a hF => ?_)
  refine n_q hF hS (q_extract (i := 1) rfl rfl) rfl (fun a hF => ?_)
  refine n_l rfl (fun K44 hK44 => l_alloc hF hS zr39 rfl (fun a w b12 hF hS => hK44 _ _ ?_))
  refine n_l rfl (fun K45 hK45 => l_store0A ty39 hF hS rfl rfl (i := 0) rfl (by simp [dc_length, Hd.c_len, En.c_len, List.length_replicate, List.length_cons, List.length_nil, List.length_append]) (by simp [dc_length, Hd.c_len, En.c_len, List.length_replicate, List.length_cons, List.length_nil, List.length_append]) (Hd.c_all1 _) (fun a w hF hS => hK45 _ _ ?_))
  refine n_q hF hS (q_assign rfl) rfl (fun a hF => ?_)
  refine hK42 _ _ ?_
  refine c_seq (fun K46 hK46 => ?_)
  refine c_reg ?_
  refine n_l rfl (fun K47 hK47 => l_call en16 hF rfl rfl (Public_c 7 _ _ hS.fz) (fun v47 w hR a hF => ?_))
  obtain ⟨hv, hc⟩ := hR
  rw [pubP2, keyOk_mid (by decide)] at hv
  subst hv
  replace hS := hS.call0 hc
  refine hK47 _ _ ?_
  refine n_q hF hS (q_move rfl) rfl (fun a hF => ?_)
  refine n_q hF hS (q_extract (i := 0) rfl rfl) rfl (fun a hF => ?_)
  refine n_q hF hS (q_extract (i := 1) rfl rfl) rfl (fun a hF => ?_)
  refine n_q hF hS (q_assign rfl) rfl (fun a hF => ?_)
  refine n_q hF hS (q_assign rfl) rfl (fun a hF => ?_)
  refine hK46 _ _ ?_
  refine c_seq (fun K48 hK48 => ?_)
  refine c_reg ?_
  refine n_q hF hS (q_load0 ty26 rfl (i := 8) rfl rfl rfl) rfl (fun a hF => ?_)
  refine n_l rfl (fun K49 hK49 => l_call en14 hF rfl rfl (Fetch_c ⟨1, 7, none, 0, []⟩ 0 1 _ _ hS.fz hg gs.ok) (fun v49 w hR a hF => ?_))
  obtain ⟨es2, al2, cpl2, H12, hv, hle12, hkl2, hrl2, hol2, hcl2, hc⟩ := hR
  rw [gs.fetchE, sane_none.1] at hv
  subst hv
  replace hS := hS.call hc
  replace hg := hg.mono hle12
  replace gs := gs.mono hle12
  replace gx := gx.mono hle12
  replace gy := gy.mono hle12
  replace gd := gd.mono hle12
  replace gz := gz.mono hle12
  replace hrl := hrl.mono hle12
  replace hol := hol.mono hle12
  rw [gs.fetchL, sane_none.2] at hkl2
  obtain rfl : es2 = [] := by simpa using hkl2
  refine hK49 _ _ ?_
  refine n_q hF hS (q_move rfl) rfl (fun a hF => ?_)
  refine n_q hF hS (q_extract (i := 0) rfl rfl) rfl (fun a hF => ?_)
  refine n_q hF hS (q_extract (i := 1) rfl rfl) rfl (fun a hF => ?_)
  refine n_q hF hS (q_assign rfl) rfl (fun a hF => ?_)
  refine n_q hF hS (q_assign rfl) rfl (fun a hF => ?_)
  refine hK48 _ _ ?_
  refine c_seq (fun K50 hK50 => ?_)
  refine c_reg ?_
  refine n_q hF hS (q_load0 ty26 rfl (i := 8) rfl rfl rfl) rfl (fun a hF => ?_)
  refine n_l rfl (fun K51 hK51 => l_call en23 hF rfl rfl (Delete_c ⟨1, 7, none, 0, []⟩ 0 1 _ _ hS.fz hg gs.ok) (fun v51 w hR a hF => ?_))
  obtain ⟨d13, H13, hv, hle13, hod13, hRd13, hc⟩ := hR
  rw [gs.delE, sane_delno] at hv
  subst hv
  replace hS := hS.call hc
  replace hg := hg.mono hle13
  replace gs := gs.mono hle13
  replace gx := gx.mono hle13
  replace gy := gy.mono hle13
  replace gd := gd.mono hle13
  replace gz := gz.mono hle13
  replace hrl := hrl.mono hle13
  replace hol := hol.mono hle13
  refine hK51 _ _ ?_
  refine n_q hF hS (q_move rfl) rfl (fun a hF => ?_)
  refine n_q hF hS (q_extract (i := 0) rfl rfl) rfl (fun a hF => ?_)
  refine n_q hF hS (q_extract (i := 1) rfl rfl) rfl (fun a hF => ?_)
  refine n_l rfl (fun K52 hK52 => l_alloc hF hS zr26 rfl (fun a w b13 hF hS => hK52 _ _ ?_))
  refine n_l rfl (fun K53 hK53 => l_store0A ty26 hF hS rfl rfl (i := 0) rfl rfl rfl rfl (fun a w hF hS => hK53 _ _ ?_))
  refine n_q hF hS (q_assign rfl) rfl (fun a hF => ?_)
  refine hK50 _ _ ?_
  refine c_seq (fun K54 hK54 => ?_)
  refine c_reg ?_
  refine n_q hF hS (q_move rfl) rfl (fun a hF => ?_)
  refine n_q hF hS (q_eqI rfl rfl) rfl (fun a hF => ?_)
  refine n_q hF hS (q_move rfl) rfl (fun a hF => ?_)
  refine spT hF (s := 107) rfl (by rfl) (fun hF => ?_)
  refine n_yes hF rfl ?_
  refine n_q hF hS (q_move rfl) rfl (fun a hF => ?_)
  refine n_yes hF rfl ?_
  refine n_q hF hS (q_eqI rfl rfl) rfl (fun a hF => ?_)
  refine n_q hF hS (q_pick (b := true) rfl rfl) rfl (fun a hF => ?_)
  refine n_q hF hS (q_move rfl) rfl (fun a hF => ?_)
  refine spT hF (s := 111) rfl (by rfl) (fun hF => ?_)
  refine n_yes hF rfl ?_
  refine n_q hF hS (q_move rfl) rfl (fun a hF => ?_)
  refine n_yes hF rfl ?_
  refine n_q hF hS (q_eqI rfl rfl) rfl (fun a hF => ?_)
  refine n_q hF hS (q_pick (b := true) rfl rfl) rfl (fun a hF => ?_)
  refine n_q hF hS (q_move rfl) rfl (fun a hF => ?_)
  refine spT hF (s := 115) rfl (by rfl) (fun hF => ?_)
  refine n_yes hF rfl ?_
  refine n_q hF hS (q_move rfl) rfl (fun a hF => ?_)
  refine n_yes hF rfl ?_
  refine n_q hF hS (q_eqI rfl rfl) rfl (fun a hF => ?_)
  refine n_q hF hS (q_pick (b := true) rfl rfl) rfl (fun a hF => ?_)
  refine n_q hF hS (q_move rfl) rfl (fun a hF => ?_)
  refine spT hF (s := 119) rfl (by rfl) (fun hF => ?_)
  refine n_yes hF rfl ?_
  refine n_q hF hS (q_move rfl) rfl (fun a hF => ?_)
  refine n_yes hF rfl ?_
  refine n_q hF hS (q_eqI rfl rfl) rfl (fun a hF => ?_)
  refine n_q hF hS (q_pick (b := true) rfl rfl) rfl (fun a hF => ?_)
  refine n_q hF hS (q_move rfl) rfl (fun a hF => ?_)
  refine spT hF (s := 123) rfl (by rfl) (fun hF => ?_)
  refine n_yes hF rfl ?_
  refine n_q hF hS (q_move rfl) rfl (fun a hF => ?_)
  refine n_yes hF rfl ?_
  refine n_q hF hS (q_eqI rfl rfl) rfl (fun a hF => ?_)
  refine n_q hF hS (q_pick (b := true) rfl rfl) rfl (fun a hF => ?_)
  refine n_q hF hS (q_move rfl) rfl (fun a hF => ?_)
  refine spT hF (s := 127) rfl (by rfl) (fun hF => ?_)
  refine n_yes hF rfl ?_
  refine n_q hF hS (q_load0 ty26 rfl (i := 7) rfl rfl rfl) rfl (fun a hF => ?_)
  refine n_yes hF rfl ?_
  refine n_q hF hS (q_load0 ty26 rfl (i := 6) rfl rfl rfl) rfl (fun a hF => ?_)
  refine n_yes hF rfl ?_
  refine n_l rfl (fun K55 hK55 => l_call en21 hF rfl rfl (Same_c x y _ _ hS.fz gx.ok gy.ok) (fun v55 w hR a hF => ?_))
  obtain ⟨rfl, hc⟩ := hR
  replace hS := hS.call0 hc
  refine hK55 _ _ ?_
  refine n_q hF hS (q_pick (b := true) rfl rfl) rfl (fun a hF => ?_)
  refine n_q hF hS (q_move rfl) rfl (fun a hF => ?_)
  refine rw_ hF (s := 132) (u := .bool true) rfl (by rw [gx.same gy rfl rfl rfl]) (fun hF => ?_)
  refine n_yes hF rfl ?_
  refine n_q hF hS (q_move rfl) rfl (fun a hF => ?_)
  refine n_yes hF rfl ?_
  refine n_q hF hS (q_eqI rfl rfl) rfl (fun a hF => ?_)
  refine n_q hF hS (q_pick (b := true) rfl rfl) rfl (fun a hF => ?_)
  refine n_q hF hS (q_move rfl) rfl (fun a hF => ?_)
  refine spT hF (s := 136) rfl (by rfl) (fun hF => ?_)
  refine n_yes hF rfl ?_
  refine n_q hF hS (q_move rfl) rfl (fun a hF => ?_)
  refine n_yes hF rfl ?_
  refine n_q hF hS (q_eqI rfl rfl) rfl (fun a hF => ?_)
  refine n_q hF hS (q_pick (b := true) rfl rfl) rfl (fun a hF => ?_)
  refine n_q hF hS (q_move rfl) rfl (fun a hF => ?_)
  refine spT hF (s := 140) rfl (by rfl) (fun hF => ?_)
  refine n_yes hF rfl ?_
  refine n_q hF hS (q_move rfl) rfl (fun a hF => ?_)
  refine n_yes hF rfl ?_
  refine n_q hF hS (q_len Tryd.underlying31 rfl rfl) rfl (fun a hF => ?_)
  refine n_yes hF rfl ?_
  refine n_q hF hS (q_eqI rfl rfl) rfl (fun a hF => ?_)
  refine n_q hF hS (q_pick (b := true) rfl rfl) rfl (fun a hF => ?_)
  refine n_q hF hS (q_move rfl) rfl (fun a hF => ?_)
  refine spT hF (s := 145) rfl (by rfl) (fun hF => ?_)
  refine n_yes hF rfl ?_
  refine n_q hF hS (q_move rfl) rfl (fun a hF => ?_)
  refine n_yes hF rfl ?_
  refine n_q hF hS (q_indexAddrS Tryd.underlying31 ty48 rfl rfl (by show (0 : Int) ≤ 0 ∧ (0 : Int) < ((1 : Nat) : Int); decide) (hrl.some (by show 0 < 1; decide))) rfl (fun a hF => ?_)
  refine n_yes hF rfl ?_
  refine n_q hF hS (q_fieldAddrE fl48_2 (by decide) rfl) rfl (fun a hF => ?_)
  refine n_yes hF rfl ?_
  refine n_q hF hS (q_loadL (off := 33) (i := 0) (v := .slice e1.da e1.dn e1.dp) ty46 rfl hrl rfl (by decide) rfl (En.ld_da e1)) rfl (fun a hF => ?_)
  refine n_yes hF rfl ?_
  refine n_q hF hS (q_convBSn (l := e1.bs) Tryd.underlying46 Tryd.underlying5 Tryd.underlying9 rfl (hol e1 (List.mem_singleton.2 rfl)).1) rfl (fun a hF => ?_)
  refine n_yes hF rfl ?_
  refine n_q hF hS (q_eqStr rfl rfl) rfl (fun a hF => ?_)
  refine n_q hF hS (q_pick (b := true) rfl rfl) rfl (fun a hF => ?_)
  refine n_q hF hS (q_move rfl) rfl (fun a hF => ?_)
  refine spT hF (s := 153) rfl (by rw [hb97]; rfl) (fun hF => ?_)
  refine n_yes hF rfl ?_
  refine n_q hF hS (q_move rfl) rfl (fun a hF => ?_)
  refine n_yes hF rfl ?_
  refine n_q hF hS (q_eqI rfl rfl) rfl (fun a hF => ?_)
  refine n_q hF hS (q_pick (b := true) rfl rfl) rfl (fun a hF => ?_)
  refine n_q hF hS (q_move rfl) rfl (fun a hF => ?_)
  refine spT hF (s := 157) rfl (by rfl) (fun hF => ?_)
  refine n_yes hF rfl ?_
  refine n_q hF hS (q_move rfl) rfl (fun a hF => ?_)
  refine n_yes hF rfl ?_
  refine n_q hF hS (q_eqI rfl rfl) rfl (fun a hF => ?_)
  refine n_q hF hS (q_pick (b := true) rfl rfl) rfl (fun a hF => ?_)
  refine n_q hF hS (q_move rfl) rfl (fun a hF => ?_)
  refine spT hF (s := 161) rfl (by rfl) (fun hF => ?_)
  refine n_yes hF rfl ?_
  refine n_q hF hS (q_move rfl) rfl (fun a hF => ?_)
  refine n_yes hF rfl ?_
  refine n_q hF hS (q_eqI rfl rfl) rfl (fun a hF => ?_)
  refine n_q hF hS (q_pick (b := true) rfl rfl) rfl (fun a hF => ?_)
  refine n_q hF hS (q_move rfl) rfl (fun a hF => ?_)
  refine spT hF (s := 165) rfl (by rfl) (fun hF => ?_)
  refine n_yes hF rfl ?_
  refine n_q hF hS (q_load0 ty26 rfl (i := 3) rfl rfl rfl) rfl (fun a hF => ?_)
  refine n_yes hF rfl ?_
  refine n_q hF hS (q_load0 ty26 rfl (i := 4) rfl rfl rfl) rfl (fun a hF => ?_)
  refine n_yes hF rfl ?_
  refine n_l rfl (fun K56 hK56 => l_call en21 hF rfl rfl (Same_c z d _ _ hS.fz gz.ok gd.ok) (fun v56 w hR a hF => ?_))
  obtain ⟨rfl, hc⟩ := hR
  replace hS := hS.call0 hc
  refine hK56 _ _ ?_
  refine n_q hF hS (q_pick (b := true) rfl rfl) rfl (fun a hF => ?_)
  refine n_q hF hS (q_assign rfl) rfl (fun a hF => ?_)
  refine hK54 _ _ ?_
  refine c_seq (fun K57 hK57 => ?_)
  refine r_start (fun L => L) [] mo hS (fun w hS => ?_)
  refine r_q (i := 0) rfl (by kernel_rfl) (by kernel_rfl) rfl (by kernel_rfl) (fun _ _ _ _ h => h) hF hS (q_move rfl) rfl (fun a hF => ?_)
  refine r_q (i := 1) rfl (by kernel_rfl) (by kernel_rfl) rfl (by kernel_rfl) (fun _ _ _ _ h => h) hF hS (q_move rfl) rfl (fun a hF => ?_)
  refine rw_ hF (s := 171) (u := .bool true) rfl (by rw [gz.same gd rfl rfl rfl]) (fun hF => ?_)
  refine r_qg (i := 2) rfl (by kernel_rfl) (by kernel_rfl) rfl (by kernel_rfl) (fun _ _ _ _ h => h) hF hS rfl (q_move rfl) rfl (fun a hF => ?_)
  refine r_qg (i := 3) rfl (by kernel_rfl) (by kernel_rfl) rfl (by kernel_rfl) (fun _ _ _ _ h => h) hF hS rfl (q_eqI rfl rfl) rfl (fun a hF => ?_)
  refine r_q (i := 4) rfl (by kernel_rfl) (by kernel_rfl) rfl (by kernel_rfl) (fun _ _ _ _ h => h) hF hS (q_pick (b := true) rfl rfl) rfl (fun a hF => ?_)
  refine r_q (i := 5) rfl (by kernel_rfl) (by kernel_rfl) rfl (by kernel_rfl) (fun _ _ _ _ h => h) hF hS (q_move rfl) rfl (fun a hF => ?_)
  refine spT hF (s := 175) rfl (by rfl) (fun hF => ?_)
  refine r_qg (i := 6) rfl (by kernel_rfl) (by kernel_rfl) rfl (by kernel_rfl) (fun _ _ _ _ h => h) hF hS rfl (q_fieldAddr fl39_2 (by decide) rfl) rfl (fun a hF => ?_)
  refine r_qg (i := 7) rfl (by kernel_rfl) (by kernel_rfl) rfl (by kernel_rfl) (fun _ _ _ _ h => h) hF hS rfl (q_load ty3 rfl (i := 2) rfl (by simp [dc_length, Hd.c_len, En.c_len, List.length_replicate, List.length_cons, List.length_nil, List.length_append]) rfl (show ldv false 1 hd9.c 2 = some (.int .i64 hd9.no) from rfl)) rfl (fun a hF => ?_)
  refine r_qg (i := 8) rfl (by kernel_rfl) (by kernel_rfl) rfl (by kernel_rfl) (fun _ _ _ _ h => h) hF hS rfl (q_eqI rfl rfl) rfl (fun a hF => ?_)
  refine r_q (i := 9) rfl (by kernel_rfl) (by kernel_rfl) rfl (by kernel_rfl) (fun _ _ _ _ h => h) hF hS (q_pick (b := true) rfl rfl) rfl (fun a hF => ?_)
  refine r_q (i := 10) rfl (by kernel_rfl) (by kernel_rfl) rfl (by kernel_rfl) (fun _ _ _ _ h => h) hF hS (q_move rfl) rfl (fun a hF => ?_)
  refine spT hF (s := 180) rfl (by exact hno9) (fun hF => ?_)
  refine r_qg (i := 11) rfl (by kernel_rfl) (by kernel_rfl) rfl (by kernel_rfl) (fun _ _ _ _ h => h) hF hS rfl (q_move rfl) rfl (fun a hF => ?_)
  refine r_qg (i := 12) rfl (by kernel_rfl) (by kernel_rfl) rfl (by kernel_rfl) (fun _ _ _ _ h => h) hF hS rfl (q_eqI rfl rfl) rfl (fun a hF => ?_)
  refine r_q (i := 13) rfl (by kernel_rfl) (by kernel_rfl) rfl (by kernel_rfl) (fun _ _ _ _ h => h) hF hS (q_pick (b := true) rfl rfl) rfl (fun a hF => ?_)
  refine r_q (i := 14) rfl (by kernel_rfl) (by kernel_rfl) rfl (by kernel_rfl) (fun _ _ _ _ h => h) hF hS (q_move rfl) rfl (fun a hF => ?_)
  refine spT hF (s := 184) rfl (by rfl) (fun hF => ?_)
  refine r_qg (i := 15) rfl (by kernel_rfl) (by kernel_rfl) rfl (by kernel_rfl) (fun _ _ _ _ h => h) hF hS rfl (q_move rfl) rfl (fun a hF => ?_)
  refine r_qg (i := 16) rfl (by kernel_rfl) (by kernel_rfl) rfl (by kernel_rfl) (fun _ _ _ _ h => h) hF hS rfl (q_load0 ty39 rfl (i := 2) rfl (by simp [dc_length, Hd.c_len, En.c_len, List.length_replicate, List.length_cons, List.length_nil, List.length_append]) rfl) rfl (fun a hF => ?_)
  refine r_one (i := 17) (by kernel_rfl) ?_
  have hsub := hS.sub
  refine r_lig rfl rfl hF rfl (fun K58 hK58 => l_call en17 hF rfl rfl (SV_c (pubP 7).1 hd9 _ _ hS.fz hg) (fun v58 w hR a hF => ?_))
  obtain ⟨rfl, hc⟩ := hR
  replace hS := hS.call0 hc
  refine hK58 _ _ _ hS (fun _ h => h) ?_
  refine r_q (i := 18) rfl (by kernel_rfl) (by kernel_rfl) rfl (by kernel_rfl) (fun _ _ _ _ h => h) hF hS (q_pick (b := true) rfl rfl) rfl (fun a hF => ?_)
  refine r_q (i := 19) rfl (by kernel_rfl) (by kernel_rfl) rfl (by kernel_rfl) (fun _ _ _ _ h => h) hF hS (q_move rfl) rfl (fun a hF => ?_)
  refine rw_ hF (s := 189) (u := .bool true) rfl (by rw [hver9]) (fun hF => ?_)
  refine r_qg (i := 20) rfl (by kernel_rfl) (by kernel_rfl) rfl (by kernel_rfl) (fun _ _ _ _ h => h) hF hS rfl (q_move rfl) rfl (fun a hF => ?_)
  refine r_qg (i := 21) rfl (by kernel_rfl) (by kernel_rfl) rfl (by kernel_rfl) (fun _ _ _ _ h => h) hF hS rfl (q_eqI rfl rfl) rfl (fun a hF => ?_)
  refine r_q (i := 22) rfl (by kernel_rfl) (by kernel_rfl) rfl (by kernel_rfl) (fun _ _ _ _ h => h) hF hS (q_pick (b := true) rfl rfl) rfl (fun a hF => ?_)
  refine r_q (i := 23) rfl (by kernel_rfl) (by kernel_rfl) rfl (by kernel_rfl) (fun _ _ _ _ h => h) hF hS (q_move rfl) rfl (fun a hF => ?_)
  refine spT hF (s := 193) rfl (by rfl) (fun hF => ?_)
  refine r_qg (i := 24) rfl (by kernel_rfl) (by kernel_rfl) rfl (by kernel_rfl) (fun _ _ _ _ h => h) hF hS rfl (q_fieldAddr fl39_2 (by decide) rfl) rfl (fun a hF => ?_)
  refine r_qg (i := 25) rfl (by kernel_rfl) (by kernel_rfl) rfl (by kernel_rfl) (fun _ _ _ _ h => h) hF hS rfl (q_load ty3 rfl (i := 1) rfl (by simp [dc_length, Hd.c_len, En.c_len, List.length_replicate, List.length_cons, List.length_nil, List.length_append]) rfl (show ldv false 1 hd10.c 2 = some (.int .i64 hd10.no) from rfl)) rfl (fun a hF => ?_)
  refine r_qg (i := 26) rfl (by kernel_rfl) (by kernel_rfl) rfl (by kernel_rfl) (fun _ _ _ _ h => h) hF hS rfl (q_eqI rfl rfl) rfl (fun a hF => ?_)
  refine r_q (i := 27) rfl (by kernel_rfl) (by kernel_rfl) rfl (by kernel_rfl) (fun _ _ _ _ h => h) hF hS (q_pick (b := true) rfl rfl) rfl (fun a hF => ?_)
  refine r_q (i := 28) rfl (by kernel_rfl) (by kernel_rfl) rfl (by kernel_rfl) (fun _ _ _ _ h => h) hF hS (q_move rfl) rfl (fun a hF => ?_)
  refine spT hF (s := 198) rfl (by exact hno10) (fun hF => ?_)
  refine r_qg (i := 29) rfl (by kernel_rfl) (by kernel_rfl) rfl (by kernel_rfl) (fun _ _ _ _ h => h) hF hS rfl (q_fieldAddr fl39_3 (by decide) rfl) rfl (fun a hF => ?_)
  refine r_qg (i := 30) rfl (by kernel_rfl) (by kernel_rfl) rfl (by kernel_rfl) (fun _ _ _ _ h => h) hF hS rfl (q_load ty35 rfl (i := 1) rfl (by simp [dc_length, Hd.c_len, En.c_len, List.length_replicate, List.length_cons, List.length_nil, List.length_append]) rfl (Hd.ld_ch hd10)) rfl (fun a hF => ?_)
  refine r_one (i := 31) (by kernel_rfl) ?_
  have hsub := hS.sub
  refine r_lig rfl rfl hF rfl (fun K59 hK59 => l_buildF (els := [[_]]) Tryd.underlying46 ty5 zr5 hF hS rfl rfl rfl (by simp [Value.cells, dc_length, Hd.c_len, En.c_len, List.length_replicate, List.length_cons, List.length_nil, List.length_append]) rfl rfl rfl (fun a w b14 hF hle hS r15_31 => ?_))
  replace hg := hg.mono hle
  replace gs := gs.mono hle
  replace gx := gx.mono hle
  replace gy := gy.mono hle
  replace hrl := hrl.mono hle
  replace hol := hol.mono hle
  replace gd := gd.mono hle
  replace gz := gz.mono hle
  refine hK59 _ _ _ hS (fun _ h => h.forget hsub hle) ?_
  refine r_one (i := 32) (by kernel_rfl) ?_
  have hsub := hS.sub
  refine r_lig rfl rfl hF rfl (fun K60 hK60 => l_call en26 hF rfl rfl (Tagged_c ⟨#[108, 111, 103]⟩ [3] _ _ _ (by decide) (by decide) (by decide) _ _ hS.fz hg r15_31.rd) (fun v60 w hR a hF => ?_))
  obtain ⟨rfl, hc⟩ := hR
  replace hS := hS.call0 hc
  refine hK60 _ _ _ hS (fun _ h => h) ?_
  refine r_qg (i := 33) rfl (by kernel_rfl) (by kernel_rfl) rfl (by kernel_rfl) (fun _ _ _ _ h => h) hF hS rfl (q_eqDg gu35 Tryd.underlying35 Tryd.underlying5 ty5 rfl rfl) rfl (fun a hF => ?_)
  refine r_q (i := 34) rfl (by kernel_rfl) (by kernel_rfl) rfl (by kernel_rfl) (fun _ _ _ _ h => h) hF hS (q_pick (b := true) rfl rfl) rfl (fun a hF => ?_)
  refine r_q (i := 35) rfl (by kernel_rfl) (by kernel_rfl) rfl (by kernel_rfl) (fun _ _ _ _ h => h) hF hS (q_move rfl) rfl (fun a hF => ?_)
  refine spT hF (s := 205) rfl (by exact hch10) (fun hF => ?_)
  refine r_qg (i := 36) rfl (by kernel_rfl) (by kernel_rfl) rfl (by kernel_rfl) (fun _ _ _ _ h => h) hF hS rfl (q_move rfl) rfl (fun a hF => ?_)
  refine r_qg (i := 37) rfl (by kernel_rfl) (by kernel_rfl) rfl (by kernel_rfl) (fun _ _ _ _ h => h) hF hS rfl (q_eqI rfl rfl) rfl (fun a hF => ?_)
  refine r_q (i := 38) rfl (by kernel_rfl) (by kernel_rfl) rfl (by kernel_rfl) (fun _ _ _ _ h => h) hF hS (q_pick (b := true) rfl rfl) rfl (fun a hF => ?_)
  refine r_q (i := 39) rfl (by kernel_rfl) (by kernel_rfl) rfl (by kernel_rfl) (fun _ _ _ _ h => h) hF hS (q_move rfl) rfl (fun a hF => ?_)
  refine spT hF (s := 209) rfl (by rfl) (fun hF => ?_)
  refine r_qg (i := 40) rfl (by kernel_rfl) (by kernel_rfl) rfl (by kernel_rfl) (fun _ _ _ _ h => h) hF hS rfl (q_move rfl) rfl (fun a hF => ?_)
  refine r_qg (i := 41) rfl (by kernel_rfl) (by kernel_rfl) rfl (by kernel_rfl) (fun _ _ _ _ h => h) hF hS rfl (q_len Tryd.underlying31 rfl rfl) rfl (fun a hF => ?_)
  refine r_qg (i := 42) rfl (by kernel_rfl) (by kernel_rfl) rfl (by kernel_rfl) (fun _ _ _ _ h => h) hF hS rfl (q_eqI rfl rfl) rfl (fun a hF => ?_)
  refine r_q (i := 43) rfl (by kernel_rfl) (by kernel_rfl) rfl (by kernel_rfl) (fun _ _ _ _ h => h) hF hS (q_pick (b := true) rfl rfl) rfl (fun a hF => ?_)
  refine r_q (i := 44) rfl (by kernel_rfl) (by kernel_rfl) rfl (by kernel_rfl) (fun _ _ _ _ h => h) hF hS (q_move rfl) rfl (fun a hF => ?_)
  refine spT hF (s := 214) rfl (by rfl) (fun hF => ?_)
  refine r_qg (i := 45) rfl (by kernel_rfl) (by kernel_rfl) rfl (by kernel_rfl) (fun _ _ _ _ h => h) hF hS rfl (q_move rfl) rfl (fun a hF => ?_)
  refine r_qg (i := 46) rfl (by kernel_rfl) (by kernel_rfl) rfl (by kernel_rfl) (fun _ _ _ _ h => h) hF hS rfl (q_eqI rfl rfl) rfl (fun a hF => ?_)
  refine r_q (i := 47) rfl (by kernel_rfl) (by kernel_rfl) rfl (by kernel_rfl) (fun _ _ _ _ h => h) hF hS (q_pick (b := true) rfl rfl) rfl (fun a hF => ?_)
  refine r_q (i := 48) rfl (by kernel_rfl) (by kernel_rfl) rfl (by kernel_rfl) (fun _ _ _ _ h => h) hF hS (q_assign rfl) rfl (fun a hF => ?_)
  refine r_done (by kernel_rfl) ?_
  refine hK57 _ _ ?_
  refine c_ret ?_
  repeat (first | refine ret_then ?_ | refine ret_blk ?_)
  refine c_ret' (P := Tryd.prog) (fn := Tryd.f11) rfl hF hS (.tmp rfl .nil) ⟨_, rfl, ?_⟩
  exact ⟨rfl, hS.same⟩
end Go.Proofs.YtneokajhmonpaaaDoor
namespace Go.Proofs.YtneokajhmonpaaaDoor
open Go Go.RowKit Go.W Go.ChangeShapes Go.WideShapes
set_option maxRecDepth 100000
namespace Fin
theorem own : ownKnob Tryd.prog.godebug = none := by kernel_rfl
theorem kids : Kids Tryd.prog (· < Tryd.prog.types.size) := kids_rows (by kernel_rfl) (by kernel_rfl)
theorem full : ∀ t e, t < Tryd.prog.types.size → Tryd.prog.underlying t = some (.slice e) → 0 < Tryd.prog.cellsOf e := slices_full_of Tryd.prog (by kernel_rfl)
theorem gS : Tryd.prog.globalNamed "chartroom/digest.start" = some 0 := by kernel_rfl
theorem gN : Tryd.prog.globalNamed "chartroom/digest.numbers" = some 1 := by kernel_rfl
abbrev laid2 : List (String × DataW Unit) := [("chartroom/digest.start", Rows.laid_chartroom_digest_start), ("chartroom/digest.numbers", Rows.laid_chartroom_digest_numbers)]
theorem tS : (Tryd.prog.globals[0]?).map (·.type) = some 163 := by kernel_rfl
theorem tN : (Tryd.prog.globals[1]?).map (·.type) = some 188 := by kernel_rfl
theorem cS : Tryd.prog.cellsOf 163 = 8 := by kernel_rfl
theorem cN : Tryd.prog.cellsOf 188 = 64 := by kernel_rfl
theorem cU : Tryd.prog.cellsOf 162 = 1 := by kernel_rfl
theorem gl {W : World} (h : laidMetH Tryd.prog laid2 W) : Gl 0 1 (HW W) := by
  rw [MakeChecks.laidMetH_plain _ _ _ (by kernel_rfl)] at h
  obtain ⟨ps, ⟨g0, t0, cs0, f0, p0, q0, hg0, ht0, hv0, hd0, ⟨g1, t1, cs1, f1, p1, q1, hg1, ht1, hv1, hd1, _, _⟩, _⟩, _, _⟩ := h
  obtain rfl := Option.some.inj (gS.symm.trans hg0)
  obtain rfl := Option.some.inj (gN.symm.trans hg1)
  obtain rfl := Option.some.inj (tS.symm.trans ht0)
  obtain rfl := Option.some.inj (tN.symm.trans ht1)
  exact ⟨laid_ints hg0 Tryd.underlying163 Tryd.underlying162 cU cS hv0 hd0, laid_ints hg1 Tryd.underlying188 Tryd.underlying162 cU cN hv1 hd1⟩
theorem door_met (os : Os) (args : Array Value) : laidMetH Tryd.prog laid2 ((World.doorLaid Tryd.prog 4000 os).forCall (fun _ _ => 0) ⟨#[], args, []⟩).memory :=
  laidMetH_of_parts3 (fuel := 8) (laidMet_of_run' 8 (by kernel_rfl) (by kernel_rfl)) (by kernel_rfl) (by kernel_rfl)
theorem c39 : Tryd.prog.cellsOf 39 = 37 := by kernel_rfl
theorem c37 : Tryd.prog.cellsOf 37 = 2 := by kernel_rfl
theorem c35 : Tryd.prog.cellsOf 35 = 32 := by kernel_rfl
theorem c3 : Tryd.prog.cellsOf 3 = 1 := by kernel_rfl
theorem c58 : Tryd.prog.cellsOf 58 = 4 := by kernel_rfl
theorem c46 : Tryd.prog.cellsOf 46 = 1 := by kernel_rfl
theorem c5 : Tryd.prog.cellsOf 5 = 1 := by kernel_rfl
end Fin
end Go.Proofs.YtneokajhmonpaaaDoor
/-! Readings: a step; how long a slice's datum is. -/
namespace Go.W
open Go Go.RowKit Go.ChangeShapes
section
variable {H : Type} {enc : TypeId × Value → H} {P : Program} {w : World} {sp : Nat → Bool} {held : Bool} {fuel : Nat} {t e : TypeId} {cs : List Value} {x : DataW H × List MemPlace}
theorem trod_sp {fs : Array Field} {t3 tb te : Nat} (hfs : fs.map (fun f => (f.type, f.offset)) = #[(t3, 0), (t3, 1), (t3, 2), (tb, 3)]) (he : P.underlying e = some (.struct fs)) (h3 : P.underlying t3 = some (.int .i64)) (hb : P.underlying tb = some (.slice te)) (hte : P.underlying te = some (.int .u8))
    (c : P.cellsOf e = 4) (c3 : P.cellsOf t3 = 1) (cb : P.cellsOf tb = 1) (cte : P.cellsOf te = 1) (h : DataW.trod enc P w 0 sp held fuel e cs = some x) :
    ∃ y : Sp, cs = y.c ∧ SpOK (HW w) y ∧ (-9223372036854775808 ≤ y.no ∧ y.no ≤ 9223372036854775807) := by
  obtain ⟨hl, hf⟩ := trod_fld he h
  have fld : ∀ (i : Nat) (ty off : Nat), (fs.map (fun f => (f.type, f.offset)))[i]? = some (ty, off) → ∃ m y, DataW.trod enc P w 0 sp held m ty ((cs.drop off).take (P.cellsOf ty)) = some y := fun i ty off hi => by
    rw [Array.getElem?_map] at hi
    obtain ⟨f, h1, h2⟩ := Option.map_eq_some_iff.1 hi
    have := hf i f h1
    simp only [Prod.mk.injEq] at h2
    rw [h2.1, h2.2] at this
    exact this
  rw [hfs] at fld
  obtain ⟨m0, y0, e0⟩ := fld 0 t3 0 rfl
  obtain ⟨m1, y1, e1⟩ := fld 1 t3 1 rfl
  obtain ⟨m2, y2, e2⟩ := fld 2 t3 2 rfl
  obtain ⟨m3, y3, e3⟩ := fld 3 tb 3 rfl
  obtain ⟨a0, q0, _⟩ := DataW.trod_int h3 e0
  obtain ⟨a1, q1, _⟩ := DataW.trod_int h3 e1
  obtain ⟨a2, q2, _, w2⟩ := DataW.trod_int h3 e2
  obtain ⟨da, bs, dn, dp, q3, r1, _, r3⟩ := trod_bytes hb hte cte e3
  rw [c3] at q0 q1 q2
  rw [cb] at q3
  rw [c] at hl
  refine ⟨⟨a0, a1, a2, da, dn, dp, bs⟩, ?_, ⟨r3, r1⟩, wf_i64 w2⟩
  have s0 := seg q0
  have s1 := seg q1
  have s2 := seg q2
  have s3 := seg q3
  have s4 : cs.drop (3 + 1) = [] := List.drop_of_length_le (by rw [hl]; exact Nat.le_refl _)
  rw [s4] at s3
  simp only [List.drop_zero, Nat.zero_add] at s0 s1 s2
  rw [s0, s1, s2]
  simp only [Nat.reduceAdd] at s3 ⊢
  rw [s3]
  rfl
def dlen : DataW H → Nat
  | .slice el _ => el.length
  | _ => 0
theorem trod_dlen {a : Option Addr} {n c : Nat} (ht : P.underlying t = some (.slice e)) (h : DataW.trod enc P w 0 sp held fuel t [.slice a n c] = some x) : dlen x.1 = n := by
  rcases Go.Deep.open_slice ht h with ⟨h1, rfl⟩ | ⟨a', len, cap, m, k, D, Pl, h1, _, _, _, _, rfl, _⟩
  · simp only [List.cons.injEq, Value.slice.injEq, and_true] at h1
    exact h1.2.1.symm
  · simp only [List.cons.injEq, Value.slice.injEq, and_true] at h1
    show ((List.range len).map D).length = n
    rw [List.length_map, List.length_range]
    exact h1.2.1.symm
end
end Go.W
namespace Go.Proofs.YtneokajhmonpaaaDoor
open Go Go.RowKit Go.W
set_option maxRecDepth 10000
namespace T39
theorem en20 : enS Tryd.prog 20 = true := by kernel_rfl
theorem en23 : enS Tryd.prog 23 = true := by kernel_rfl
theorem en43 : enS Tryd.prog 43 = true := by kernel_rfl
theorem fl58_0 : flS Tryd.prog 58 0 = some (0, 1) := by kernel_rfl
theorem fl58_1 : flS Tryd.prog 58 1 = some (1, 1) := by kernel_rfl
theorem fl58_2 : flS Tryd.prog 58 2 = some (2, 1) := by kernel_rfl
theorem fl58_3 : flS Tryd.prog 58 3 = some (3, 1) := by kernel_rfl
theorem ty3 : tyS Tryd.prog 3 = some (false, 1) := by kernel_rfl
theorem ty26 : tyS Tryd.prog 26 = some (true, 3) := by kernel_rfl
theorem ty46 : tyS Tryd.prog 46 = some (false, 1) := by kernel_rfl
theorem ty58 : tyS Tryd.prog 58 = some (true, 4) := by kernel_rfl
theorem zr26 : zrS Tryd.prog 26 = some [.int .i64 0, .int .i64 0, .slice none 0 0] := by kernel_rfl
theorem zr58 : zrS Tryd.prog 58 = some [.int .i64 0, .int .i64 0, .int .i64 0, .slice none 0 0] := by kernel_rfl
theorem mo : Tryd.prog.follows .mixedOrders = true := by kernel_rfl
end T39
open T39

set_option maxHeartbeats 1600000 in
theorem play_c (xs : List Sp) (al : Option Addr) (cl : Nat) (w : World) (H : Froz) (hz : Fz H w) (hg : Gl 0 1 H) (hr : RdL H al 4 (spE xs)) (ho : SpsOK H xs) :
    CallsR Tryd.prog 12 [.slice al xs.length cl] w fun v w' => ∃ s' H', v = .tuple #[.agg s'.c.toArray, .bool (playOK (xs.map Sp.key))] ∧ Le H H' ∧ StOK H' s' ∧ (playOK (xs.map Sp.key) = true → GoodS H' s' 2 5 (playKs (xs.map Sp.key))) ∧ St ⟨w, H, []⟩ H' [] w' := by
  refine calls_start Tryd.func12 rfl Tryd.ntmps12 rfl (fun a hF => ?_)
  have hS := St.start w H hz
  refine c_seq (fun K1 hK1 => ?_)
  refine c_reg ?_
  refine n_l rfl (fun K2 hK2 => l_alloc hF hS zr26 rfl (fun a w b1 hF hS => hK2 _ _ ?_))
  refine n_q hF hS (q_assign rfl) rfl (fun a hF => ?_)
  refine hK1 _ _ ?_
  refine c_seq (fun K3 hK3 => ?_)
  refine c_seq (fun K4 hK4 => ?_)
  refine c_reg ?_
  refine n_q hF hS (q_move rfl) rfl (fun a hF => ?_)
  refine n_q hF hS (q_len Tryd.underlying22 rfl rfl) rfl (fun a hF => ?_)
  refine n_q hF hS (q_gtr rfl rfl) rfl (fun a hF => ?_)
  refine hK4 _ _ ?_
  refine spd hF (s := 14) rfl (fun hc14 hF => ?_) (fun hc14 hF => ?_)
  · refine c_true hF rfl ?_
    refine c_seq (fun K5 hK5 => ?_)
    refine c_reg ?_
    refine n_q hF hS (q_load0 ty26 rfl (i := 0) rfl rfl rfl) rfl (fun a hF => ?_)
    refine n_l rfl (fun K6 hK6 => l_store0A ty26 hF hS rfl rfl (i := 0) rfl rfl rfl rfl (fun a w hF hS => hK6 _ _ ?_))
    refine n_q hF hS (q_assign rfl) rfl (fun a hF => ?_)
    refine hK5 _ _ ?_
    refine c_ret ?_
    repeat (first | refine ret_then ?_ | refine ret_blk ?_)
    refine c_ret' (P := Tryd.prog) (fn := Tryd.f12) rfl hF hS (.cell0 rfl ty26 (i := 0) rfl rfl rfl (.tmp rfl .nil)) ⟨_, rfl, ?_⟩
    have hno := playOK_len (xs := xs) (by omega)
    exact ⟨zSto, _, by rw [hno]; rfl, hS.le, StOK.zero _, fun h => (by rw [hno] at h; cases h), hS.nil⟩
  · refine c_false hF rfl ?_
    refine wp_skip ?_
    refine hK3 _ _ ?_
    refine c_seq (fun K7 hK7 => ?_)
    refine c_reg ?_
    refine n_l rfl (fun K8 hK8 => l_call en43 hF rfl rfl (New_c 2 5 _ _ hS.fz) (fun v8 w hR a hF => ?_))
    obtain ⟨hv, hc⟩ := hR
    rw [newP_ok (by decide) (by decide)] at hv
    subst hv
    replace hS := hS.call0 hc
    have hg0 : GoodS H ⟨2, 5, none, 0, []⟩ 2 5 [] := GoodS.new_ 2 5 (by rw [newP_ok (by decide) (by decide)])
    refine hK8 _ _ ?_
    refine n_q hF hS (q_move rfl) rfl (fun a hF => ?_)
    refine n_q hF hS (q_extract (i := 0) rfl rfl) rfl (fun a hF => ?_)
    refine n_q hF hS (q_extract (i := 1) rfl rfl) rfl (fun a hF => ?_)
    refine n_l rfl (fun K9 hK9 => l_store0A ty26 hF hS rfl rfl (i := 0) rfl rfl rfl rfl (fun a w hF hS => hK9 _ _ ?_))
    refine n_q hF hS (q_assign rfl) rfl (fun a hF => ?_)
    refine hK7 _ _ ?_
    refine c_seq (fun K10 hK10 => ?_)
    refine c_seq (fun K11 hK11 => ?_)
    refine c_reg ?_
    refine n_q hF hS (q_move rfl) rfl (fun a hF => ?_)
    refine n_q hF hS (q_neI rfl rfl) rfl (fun a hF => ?_)
    refine hK11 _ _ ?_
    refine rw_ hF (s := 21) (u := .bool false) rfl (by rfl) (fun hF => ?_)
    refine c_false hF rfl ?_
    refine wp_skip ?_
    refine hK10 _ _ ?_
    refine c_seq (fun K12 hK12 => ?_)
    refine c_seq (fun K13 hK13 => ?_)
    refine c_reg ?_
    refine n_q hF hS (q_move rfl) rfl (fun a hF => ?_)
    refine n_q hF hS (q_len Tryd.underlying22 rfl rfl) rfl (fun a hF => ?_)
    refine n_q hF hS (q_move rfl) rfl (fun a hF => ?_)
    refine hK13 _ _ ?_
    refine c_block ?_
    refine c_loopL hF [3, 6, 7, 8, 9, 10, 11, 25, 26, 27, 28, 29, 30, 31, 32, 33, 34, 35, 36, 37, 38, 39, 40, 41, 42, 43, 44, 45, 46, 47, 48, 49, 50, 51, 52, 53, 54, 55, 56, 57, 58, 59, 60, 61, 62, 63, 64]
      (fun g : Nat × Sto => [(25, .int .i64 (g.1 : Int))])
      (fun g => [⟨b1, g.2.c, 26⟩])
      (fun g H => g.1 ≤ xs.length ∧ (∀ x ∈ xs.take g.1, x.bs.length ≤ 100) ∧ GoodS H g.2 2 5 (playKs ((xs.take g.1).map Sp.key)))
      (fun g => xs.length - g.1) ((0, ⟨2, 5, none, 0, []⟩)) ⟨rfl, trivial⟩ (hS) (⟨Nat.zero_le _, (by simp), by simpa [playKs] using hg0⟩) ?_
    clear hF hS
    intro g a w H hle hF hS hJ
    replace hg := hg.mono hle
    replace hr := hr.mono hle
    replace ho := ho.mono hle
    have hl0 := Le.refl H
    obtain ⟨k, s⟩ := g
    obtain ⟨hk, hsm, hgs⟩ := hJ
    try dsimp only at hF hS hk hsm hgs
    refine c_seq (fun K14 hK14 => ?_)
    refine c_reg ?_
    refine n_q hF hS (q_lss rfl rfl) rfl (fun a hF => ?_)
    refine hK14 _ _ ?_
    refine c_seq (fun K15 hK15 => ?_)
    refine spd hF (s := 26) rfl (fun hc26 hF => ?_) (fun hc26 hF => ?_)
    · refine c_true hF rfl ?_
      refine wp_skip ?_
      refine hK15 _ _ ?_
      refine c_seq (fun K16 hK16 => ?_)
      refine c_block ?_
      refine c_seq (fun K17 hK17 => ?_)
      refine c_reg ?_
      have hlt : k < xs.length := by omega
      obtain ⟨x, hxd⟩ : ∃ q, q = xs[k] := ⟨_, rfl⟩
      have hx? : xs[k]? = some x := by rw [hxd]; simp [hlt]
      have hel : (spE xs)[k]? = some x.c := by simp [spE, hx?]
      have hxo := ho x (List.mem_of_getElem? hx?)
      refine n_q hF hS (q_indexAddrS Tryd.underlying22 ty58 rfl rfl (by omega) (hr.some (by simp [spE]; omega))) rfl (fun a hF => ?_)
      refine n_q hF hS (q_loadL0 (v := .agg x.c.toArray) ty58 rfl hr hel (by decide) rfl rfl) rfl (fun a hF => ?_)
      refine n_l rfl (fun K18 hK18 => l_alloc hF hS zr58 rfl (fun a w b2 hF hS => hK18 _ _ ?_))
      refine n_l rfl (fun K19 hK19 => l_store0A ty58 hF hS rfl rfl (i := 0) rfl rfl rfl rfl (fun a w hF hS => hK19 _ _ ?_))
      refine hK17 _ _ ?_
      refine c_seq (fun K20 hK20 => ?_)
      refine c_seq (fun K21 hK21 => ?_)
      refine c_reg ?_
      refine n_q hF hS (q_fieldAddr fl58_3 (by decide) rfl) rfl (fun a hF => ?_)
      refine n_q hF hS (q_load ty46 rfl (i := 0) rfl rfl rfl (show ldv false 1 x.c 3 = some (.slice x.da x.dn x.dp) from rfl)) rfl (fun a hF => ?_)
      refine n_q hF hS (q_len Tryd.underlying46 rfl rfl) rfl (fun a hF => ?_)
      refine n_q hF hS (q_gtr rfl rfl) rfl (fun a hF => ?_)
      refine hK21 _ _ ?_
      refine spd hF (s := 32) rfl (fun hc32 hF => ?_) (fun hc32 hF => ?_)
      · refine c_true hF rfl ?_
        refine c_seq (fun K22 hK22 => ?_)
        refine c_reg ?_
        refine n_q hF hS (q_load0 ty26 rfl (i := 1) rfl rfl rfl) rfl (fun a hF => ?_)
        refine n_l rfl (fun K23 hK23 => l_store0A ty26 hF hS rfl rfl (i := 1) rfl rfl rfl rfl (fun a w hF hS => hK23 _ _ ?_))
        refine n_q hF hS (q_assign rfl) rfl (fun a hF => ?_)
        refine hK22 _ _ ?_
        refine c_ret ?_
        repeat (first | refine ret_then ?_ | refine ret_blk ?_)
        refine c_ret' (P := Tryd.prog) (fn := Tryd.f12) rfl hF hS (.cell0 rfl ty26 (i := 1) rfl rfl rfl (.tmp rfl .nil)) ⟨_, rfl, ?_⟩
        have hno := playOK_bad hx? (by have := hxo.len; omega)
        exact ⟨s, _, by rw [hno]; rfl, hS.le, hgs.ok, fun h => (by rw [hno] at h; cases h), hS.nil⟩
      · refine c_false hF rfl ?_
        refine wp_skip ?_
        refine hK20 _ _ ?_
        refine c_seq (fun K24 hK24 => ?_)
        refine c_seq (fun K25 hK25 => ?_)
        refine c_reg ?_
        refine n_q hF hS (q_fieldAddr fl58_1 (by decide) rfl) rfl (fun a hF => ?_)
        refine n_q hF hS (q_load ty3 rfl (i := 0) rfl rfl rfl (show ldv false 1 x.c 1 = some (.int .i64 x.kind) from rfl)) rfl (fun a hF => ?_)
        refine n_q hF hS (q_eqI rfl rfl) rfl (fun a hF => ?_)
        refine hK25 _ _ ?_
        refine spd hF (s := 36) rfl (fun hc36 hF => ?_) (fun hc36 hF => ?_)
        · refine c_true hF rfl ?_
          refine c_seq (fun K26 hK26 => ?_)
          refine c_seq (fun K27 hK27 => ?_)
          refine c_reg ?_
          refine n_q hF hS (q_load0 ty26 rfl (i := 1) rfl rfl rfl) rfl (fun a hF => ?_)
          refine n_q hF hS (q_fieldAddr fl58_0 (by decide) rfl) rfl (fun a hF => ?_)
          refine n_q hF hS (q_load ty3 rfl (i := 0) rfl rfl rfl (show ldv false 1 x.c 0 = some (.int .i64 x.fo) from rfl)) rfl (fun a hF => ?_)
          refine n_q hF hS (q_fieldAddr fl58_2 (by decide) rfl) rfl (fun a hF => ?_)
          refine n_q hF hS (q_load ty3 rfl (i := 0) rfl rfl rfl (show ldv false 1 x.c 2 = some (.int .i64 x.no) from rfl)) rfl (fun a hF => ?_)
          refine n_l rfl (fun K28 hK28 => l_call en23 hF rfl rfl (Delete_c s x.fo x.no _ _ hS.fz hg hgs.ok) (fun v28 w hR a hF => ?_))
          obtain ⟨d, H7, rfl, hle7, hod, hRd, hc⟩ := hR
          replace hS := hS.call hc
          replace hg := hg.mono hle7
          replace hr := hr.mono hle7
          replace ho := ho.mono hle7
          replace hgs := hgs.mono hle7
          replace hl0 := hl0.mono hle7
          have hgd := fun he => hgs.del hod hRd (he : delEK _ x.fo x.no = 0)
          refine hK28 _ _ ?_
          refine n_q hF hS (q_move rfl) rfl (fun a hF => ?_)
          refine n_q hF hS (q_extract (i := 0) rfl rfl) rfl (fun a hF => ?_)
          refine n_q hF hS (q_extract (i := 1) rfl rfl) rfl (fun a hF => ?_)
          refine n_l rfl (fun K29 hK29 => l_alloc hF hS zr26 rfl (fun a w b3 hF hS => hK29 _ _ ?_))
          refine n_l rfl (fun K30 hK30 => l_store0A ty26 hF hS rfl rfl (i := 0) rfl rfl rfl rfl (fun a w hF hS => hK30 _ _ ?_))
          refine n_q hF hS (q_assign rfl) rfl (fun a hF => ?_)
          refine hK27 _ _ ?_
          refine c_seq (fun K31 hK31 => ?_)
          refine c_reg ?_
          refine n_q hF hS (q_move rfl) rfl (fun a hF => ?_)
          refine n_q hF hS (q_eqI rfl rfl) rfl (fun a hF => ?_)
          refine hK31 _ _ ?_
          refine spd hF (s := 47) rfl (fun hc47 hF => ?_) (fun hc47 hF => ?_)
          · refine c_true hF rfl ?_
            refine c_reg ?_
            refine n_q hF hS (q_load0 ty26 rfl (i := 0) rfl rfl rfl) rfl (fun a hF => ?_)
            refine n_l rfl (fun K32 hK32 => l_store0A ty26 hF hS rfl rfl (i := 2) rfl rfl rfl rfl (fun a w hF hS => hK32 _ _ ?_))
            refine hK26 _ _ ?_
            refine c_exit ?_
            refine hK16 _ _ ?_
            refine c_reg ?_
            refine n_q hF hS (q_addI rfl rfl (by omega)) rfl (fun a hF => ?_)
            refine n_q hF hS (q_move rfl) rfl (fun a hF => ?_)
            exact ⟨(k + 1, d), _, (by show xs.length - (k + 1) < xs.length - k; omega), hl0, hF.back ⟨rfl, trivial⟩ rfl (by repeat first | exact Ext.refl _ _ | refine Ext.rem' rfl ?_ | refine Ext.push rfl ?_), hS.lose (.cons _ (.cons _ (.refl _))), ⟨by show k + 1 ≤ xs.length; omega, take_small hx? hsm (by have := hxo.len; omega), by show GoodS _ _ 2 5 _; rw [play_take hx?, playKs_snoc, stepK_d1 hc36 (by rw [← hgs.delE]; exact hc47)]; exact hgd (by rw [← hgs.delE]; exact hc47)⟩⟩
          · refine c_false hF rfl ?_
            refine wp_skip ?_
            refine hK26 _ _ ?_
            refine c_exit ?_
            refine hK16 _ _ ?_
            refine c_reg ?_
            refine n_q hF hS (q_addI rfl rfl (by omega)) rfl (fun a hF => ?_)
            refine n_q hF hS (q_move rfl) rfl (fun a hF => ?_)
            exact ⟨(k + 1, s), _, (by show xs.length - (k + 1) < xs.length - k; omega), hl0, hF.back ⟨rfl, trivial⟩ rfl (by repeat first | exact Ext.refl _ _ | refine Ext.rem' rfl ?_ | refine Ext.push rfl ?_), hS.lose (.cons _ (.cons _ (.refl _))), ⟨by show k + 1 ≤ xs.length; omega, take_small hx? hsm (by have := hxo.len; omega), by show GoodS _ _ 2 5 _; rw [play_take hx?, playKs_snoc, stepK_d0 hc36 (by rw [← hgs.delE]; exact hc47)]; exact hgs⟩⟩
        · refine c_false hF rfl ?_
          refine wp_skip ?_
          refine hK24 _ _ ?_
          refine c_seq (fun K33 hK33 => ?_)
          refine c_reg ?_
          refine n_q hF hS (q_load0 ty26 rfl (i := 1) rfl rfl rfl) rfl (fun a hF => ?_)
          refine n_q hF hS (q_fieldAddr fl58_0 (by decide) rfl) rfl (fun a hF => ?_)
          refine n_q hF hS (q_load ty3 rfl (i := 0) rfl rfl rfl (show ldv false 1 x.c 0 = some (.int .i64 x.fo) from rfl)) rfl (fun a hF => ?_)
          refine n_q hF hS (q_fieldAddr fl58_1 (by decide) rfl) rfl (fun a hF => ?_)
          refine n_q hF hS (q_load ty3 rfl (i := 0) rfl rfl rfl (show ldv false 1 x.c 1 = some (.int .i64 x.kind) from rfl)) rfl (fun a hF => ?_)
          refine n_q hF hS (q_fieldAddr fl58_3 (by decide) rfl) rfl (fun a hF => ?_)
          refine n_q hF hS (q_load ty46 rfl (i := 0) rfl rfl rfl (show ldv false 1 x.c 3 = some (.slice x.da x.dn x.dp) from rfl)) rfl (fun a hF => ?_)
          refine n_l rfl (fun K34 hK34 => l_call en20 hF rfl rfl (Put_c s x.fo x.kind x.bs x.da x.dn x.dp (by have := hxo.len; omega) hxo.2 _ _ hS.fz hg hgs.ok hxo.1) (fun v34 w hR a hF => ?_))
          obtain ⟨p, H7, rfl, hle7, hop, hRp, hc⟩ := hR
          replace hS := hS.call hc
          replace hg := hg.mono hle7
          replace hr := hr.mono hle7
          replace ho := ho.mono hle7
          replace hgs := hgs.mono hle7
          replace hl0 := hl0.mono hle7
          have hgp := fun he => hgs.put hop hRp (he : putEK _ x.fo x.kind x.bs = 0)
          refine hK34 _ _ ?_
          refine n_q hF hS (q_move rfl) rfl (fun a hF => ?_)
          refine n_q hF hS (q_extract (i := 0) rfl rfl) rfl (fun a hF => ?_)
          refine n_q hF hS (q_extract (i := 1) rfl rfl) rfl (fun a hF => ?_)
          refine n_q hF hS (q_extract (i := 2) rfl rfl) rfl (fun a hF => ?_)
          refine n_l rfl (fun K35 hK35 => l_alloc hF hS zr26 rfl (fun a w b4 hF hS => hK35 _ _ ?_))
          refine n_l rfl (fun K36 hK36 => l_store0A ty26 hF hS rfl rfl (i := 0) rfl rfl rfl rfl (fun a w hF hS => hK36 _ _ ?_))
          refine n_q hF hS (q_assign rfl) rfl (fun a hF => ?_)
          refine n_q hF hS (q_assign rfl) rfl (fun a hF => ?_)
          refine hK33 _ _ ?_
          refine c_seq (fun K37 hK37 => ?_)
          refine c_reg ?_
          refine n_q hF hS (q_move rfl) rfl (fun a hF => ?_)
          refine n_q hF hS (q_eqI rfl rfl) rfl (fun a hF => ?_)
          refine hK37 _ _ ?_
          refine spd hF (s := 62) rfl (fun hc62 hF => ?_) (fun hc62 hF => ?_)
          · refine c_true hF rfl ?_
            refine c_reg ?_
            refine n_q hF hS (q_load0 ty26 rfl (i := 0) rfl rfl rfl) rfl (fun a hF => ?_)
            refine n_l rfl (fun K38 hK38 => l_store0A ty26 hF hS rfl rfl (i := 2) rfl rfl rfl rfl (fun a w hF hS => hK38 _ _ ?_))
            refine hK16 _ _ ?_
            refine c_reg ?_
            refine n_q hF hS (q_addI rfl rfl (by omega)) rfl (fun a hF => ?_)
            refine n_q hF hS (q_move rfl) rfl (fun a hF => ?_)
            exact ⟨(k + 1, p), _, (by show xs.length - (k + 1) < xs.length - k; omega), hl0, hF.back ⟨rfl, trivial⟩ rfl (by repeat first | exact Ext.refl _ _ | refine Ext.rem' rfl ?_ | refine Ext.push rfl ?_), hS.lose (.cons _ (.cons _ (.refl _))), ⟨by show k + 1 ≤ xs.length; omega, take_small hx? hsm (by have := hxo.len; omega), by show GoodS _ _ 2 5 _; rw [play_take hx?, playKs_snoc, stepK_p1 hc36 (by rw [← hgs.putE]; exact hc62)]; exact hgp (by rw [← hgs.putE]; exact hc62)⟩⟩
          · refine c_false hF rfl ?_
            refine wp_skip ?_
            refine hK16 _ _ ?_
            refine c_reg ?_
            refine n_q hF hS (q_addI rfl rfl (by omega)) rfl (fun a hF => ?_)
            refine n_q hF hS (q_move rfl) rfl (fun a hF => ?_)
            exact ⟨(k + 1, s), _, (by show xs.length - (k + 1) < xs.length - k; omega), hl0, hF.back ⟨rfl, trivial⟩ rfl (by repeat first | exact Ext.refl _ _ | refine Ext.rem' rfl ?_ | refine Ext.push rfl ?_), hS.lose (.cons _ (.cons _ (.refl _))), ⟨by show k + 1 ≤ xs.length; omega, take_small hx? hsm (by have := hxo.len; omega), by show GoodS _ _ 2 5 _; rw [play_take hx?, playKs_snoc, stepK_p0 hc36 (by rw [← hgs.putE]; exact hc62)]; exact hgs⟩⟩
    · refine c_false hF rfl ?_
      refine c_exit ?_
      refine hK12 _ _ ?_
      refine c_seq (fun K39 hK39 => ?_)
      refine c_reg ?_
      refine n_q hF hS (q_load0 ty26 rfl (i := 0) rfl rfl rfl) rfl (fun a hF => ?_)
      refine n_l rfl (fun K40 hK40 => l_store0A ty26 hF hS rfl rfl (i := 0) rfl rfl rfl rfl (fun a w hF hS => hK40 _ _ ?_))
      refine n_q hF hS (q_assign rfl) rfl (fun a hF => ?_)
      refine hK39 _ _ ?_
      refine c_ret ?_
      repeat (first | refine ret_then ?_ | refine ret_blk ?_)
      refine c_ret' (P := Tryd.prog) (fn := Tryd.f12) rfl hF hS (.cell0 rfl ty26 (i := 0) rfl rfl rfl (.tmp rfl .nil)) ⟨_, rfl, ?_⟩
      obtain rfl : k = xs.length := by omega
      rw [List.take_length] at hsm hgs
      have hyes := playOK_yes (by omega) hsm
      exact ⟨s, _, by rw [hyes]; rfl, hS.le, hgs.ok, fun _ => hgs, hS.nil⟩
end Go.Proofs.YtneokajhmonpaaaDoor
/-! Plain: folders and entries are apart. -/
namespace Go.W
open Go Go.RowKit
theorem q_cast {P : Program} {S : World → Prop} {F : Fr} {op : Op} {ty : TypeId} {v u : Value} (q : Qt P S F op ty v) (h : v = u) : Qt P S F op ty u := h ▸ q
theorem fetch_one {ks : List LK} {k : Int} (h : 0 ≤ k ∧ k < 16) : fetchEK ks k 1 = 0 ∧ fetchLK ks k 1 = entK ks k := by
  have h1 : fetchEK ks k 1 = 0 := by unfold fetchEK; rw [if_pos h, if_neg (by omega)]
  exact ⟨h1, by unfold fetchLK; rw [h1, if_pos rfl]; rfl⟩
theorem apart_put {ks : List LK} {f kind : Int} {bs : List UInt8} (h : putEK ks f kind bs = 0) (k : Int) : ∃ t, entK (putKK ks f kind bs) k = entK ks k ++ t ∧ (0 < t.length → k = f ∧ t.length = 1 ∧ putNK ks f kind bs = ((entK ks k).length : Int) + 1) := by
  unfold putKK
  by_cases hi : 0 ≤ idxK (entK ks f) (digE kind bs)
  · rw [if_pos hi]; exact ⟨[], by simp, fun h => absurd h (by simp)⟩
  · rw [if_neg hi]
    by_cases hk : k = f
    · subst hk
      refine ⟨[(kind, digE kind bs, bs, false)], by rw [entK_rep], fun _ => ⟨rfl, rfl, ?_⟩⟩
      unfold putNK
      rw [if_pos h, if_neg hi]
    · exact ⟨[], by rw [entK_other _ _ _ hk, List.append_nil], fun h => absurd h (by simp)⟩
theorem apart_del {ks : List LK} {f no : Int} (h : delEK ks f no = 0) : (1 ≤ no) ∧ (∃ e, (entK ks f)[(no - 1).toNat]? = some e ∧ e.1 = 4) ∧ ∀ k, entK (delKK ks f no) k = if k = f then (entK ks f).modify (no - 1).toNat delKey else entK ks k := by
  have h0 := h
  unfold delEK at h
  split at h
  · split at h
    · cases h
    · rename_i hn
      split at h
      · rename_i h4
        have hlt : (no - 1).toNat < (entK ks f).length := by omega
        have hg := List.getElem?_eq_getElem hlt
        rw [hg] at h4
        refine ⟨by omega, ⟨_, hg, h4⟩, fun k => ?_⟩
        unfold delKK
        by_cases hk : k = f
        · rw [if_pos hk, hk, entK_rep]
        · rw [if_neg hk, entK_other _ _ _ hk]
      · cases h
  · cases h
theorem rd_take {H : Froz} {a : Option Addr} {es : List En} (h : RdL H a 35 (enE es)) (n : Nat) : RdL H a 35 (enE (es.take n)) := by
  have he : ∀ x ∈ enE (es.take n), x.length = 35 := fun x hx => by obtain ⟨e, _, rfl⟩ := List.mem_map.1 hx; exact En.c_len e
  refine ⟨⟨flatten_len he, fun hn => ?_⟩, he⟩
  have hpos : (enE es).length ≠ 0 := by
    simp only [enE, List.length_map, List.length_take] at hn ⊢
    omega
  obtain ⟨b, o, e1, h2⟩ := h.rd.at_ hpos
  refine ⟨b, o, e1, fun j v hv => h2 j v ?_⟩
  have e2 : enE es = enE (es.take n) ++ enE (es.drop n) := by simp only [enE]; rw [← List.map_append, List.take_append_drop]
  rw [e2, List.flatten_append, List.getElem?_append_left (List.getElem?_eq_some_iff.1 hv).1]
  exact hv
theorem EnsOK.take {H : Froz} {es : List En} (h : EnsOK H es) (n : Nat) : EnsOK H (es.take n) := fun e he => h e (List.mem_of_mem_take he)
theorem rd_one {H : Froz} {a : Option Addr} {es : List En} {i c : Nat} {e : En} (h : RdL H a 35 (enE es)) (hi : es[i]? = some e) (hc : es.length ≤ c) : RdL H (cutA a c i 35) 35 (enE [e]) := by
  obtain ⟨hlt, he⟩ := List.getElem?_eq_some_iff.1 hi
  have h1 := h.cut (c := c) (l := i) (h := i + 1) (by omega) (by simp only [enE, List.length_map]; omega) (by omega)
  have e2 : ((enE es).take (i + 1)).drop i = enE [e] := by
    simp only [enE, ← List.map_take, ← List.map_drop]
    congr 1
    rw [List.drop_take, List.drop_eq_getElem_cons hlt, he, show i + 1 - i = 1 by omega]
    rfl
  rwa [e2] at h1
theorem EnsOK.one {H : Froz} {es : List En} {i : Nat} {e : En} (h : EnsOK H es) (hi : es[i]? = some e) : EnsOK H [e] := fun x hx => by
  rw [List.mem_singleton.1 hx]; exact h e (List.mem_of_getElem? hi)
theorem same_take {es es2 : List En} {t : List EK} (h : es2.map En.key = es.map En.key ++ t) : sameEs (es2.take es.length) es = true := by
  apply decide_eq_true
  rw [List.map_take, h, List.take_append_of_le_length (by simp), List.take_of_length_le (by simp)]
theorem same_one {e g : En} (h : e.key = g.key) : sameEs [e] [g] = true := decide_eq_true (by simp [h])
theorem key_at {es : List En} {l : List EK} {i : Nat} {e : En} (h : es.map En.key = l) (hi : es[i]? = some e) : l[i]? = some e.key := by rw [← h, List.getElem?_map, hi]; rfl
/-- An entry that the deletion does not hit. -/
theorem del_miss {es es3 : List En} {l : List EK} {p i : Nat} {e e3 : En} (h : es.map En.key = l) (h3 : es3.map En.key = l.modify p delKey) (hi : es[i]? = some e) (hi3 : es3[i]? = some e3) (hne : i ≠ p) : e3.key = e.key := by
  have h1 := key_at h hi
  have h2 := key_at h3 hi3
  rw [List.getElem?_modify, h1] at h2
  simp only [Ne.symm hne, if_false, Option.map_eq_map, Option.map_some, Option.some.injEq] at h2
  exact h2.symm
theorem del_hit {es es3 : List En} {l : List EK} {p : Nat} {e e3 : En} (h : es.map En.key = l) (h3 : es3.map En.key = l.modify p delKey) (hi : es[p]? = some e) (hi3 : es3[p]? = some e3) : e3.key = delKey e.key := by
  have h1 := key_at h hi
  have h2 := key_at h3 hi3
  rw [List.getElem?_modify, h1] at h2
  simp only [if_true, Option.map_eq_map, Option.map_some, Option.some.injEq] at h2
  exact h2.symm
end Go.W
/-! Plain: logs only become longer. -/
namespace Go.W
open Go Go.RowKit
structure Lon (l1 l2 : List EK) : Prop where
  le : l1.length ≤ l2.length
  at_ : ∀ (i : Nat) (e1 e2 : EK), l1[i]? = some e1 → l2[i]? = some e2 → e1.1 = e2.1 ∧ e1.2.1 = e2.2.1 ∧ (e1.2.2.2 = true → e2.2.2.2 = true)
theorem Lon.refl (l : List EK) : Lon l l := ⟨Nat.le_refl _, fun i e1 e2 h1 h2 => by rw [h1] at h2; obtain rfl := Option.some.inj h2; exact ⟨rfl, rfl, id⟩⟩
theorem Lon.trans {a b c : List EK} (h : Lon a b) (h' : Lon b c) : Lon a c := ⟨Nat.le_trans h.le h'.le, fun i e1 e3 h1 h3 => by
  have hi := (List.getElem?_eq_some_iff.1 h1).1
  have h2 : b[i]? = some (b[i]'(Nat.lt_of_lt_of_le hi h.le)) := List.getElem?_eq_getElem _
  obtain ⟨p1, p2, p3⟩ := h.at_ i _ _ h1 h2
  obtain ⟨q1, q2, q3⟩ := h'.at_ i _ _ h2 h3
  exact ⟨p1.trans q1, p2.trans q2, fun g => q3 (p3 g)⟩⟩
theorem Lon.append (a t : List EK) : Lon a (a ++ t) := ⟨by rw [List.length_append]; omega, fun i e1 e2 h1 h2 => by
  rw [List.getElem?_append_left (List.getElem?_eq_some_iff.1 h1).1, h1] at h2
  obtain rfl := Option.some.inj h2; exact ⟨rfl, rfl, id⟩⟩
theorem Lon.del (a : List EK) (p : Nat) : Lon a (a.modify p delKey) := ⟨by rw [List.length_modify]; exact Nat.le_refl _, fun i e1 e2 h1 h2 => by
  rw [List.getElem?_modify, h1] at h2
  simp only [Option.map_eq_map, Option.map_some, Option.some.injEq] at h2
  subst h2
  by_cases hp : p = i
  · rw [if_pos hp]; exact ⟨rfl, rfl, fun _ => rfl⟩
  · rw [if_neg hp]; exact ⟨rfl, rfl, id⟩⟩
theorem step_lon (ks : List LK) (x : SK) (k : Int) : Lon (entK ks k) (entK (stepK ks x) k) := by
  unfold stepK
  split
  · split
    · rename_i h
      rw [(apart_del h).2.2 k]
      split
      · rename_i hk; rw [hk]; exact Lon.del _ _
      · exact Lon.refl _
    · exact Lon.refl _
  · split
    · rename_i h
      obtain ⟨t, ht, _⟩ := apart_put h k
      rw [ht]; exact Lon.append _ _
    · exact Lon.refl _
theorem play_lon (xs ys : List SK) (k : Int) : Lon (entK (playKs xs) k) (entK (playKs (xs ++ ys)) k) := by
  unfold playKs
  rw [List.foldl_append]
  generalize xs.foldl stepK [] = ks
  induction ys generalizing ks with
  | nil => exact Lon.refl _
  | cons y t ih => exact (step_lon ks y k).trans (ih _)
theorem lon_at {es es2 : List En} {l1 l2 : List EK} (h : Lon l1 l2) (h1 : es.map En.key = l1) (h2 : es2.map En.key = l2) {i : Nat} {e e2 : En} (hi : es[i]? = some e) (hi2 : es2[i]? = some e2) : e.kind = e2.kind ∧ e.dg = e2.dg ∧ (e.gone = true → e2.gone = true) :=
  h.at_ i e.key e2.key (key_at h1 hi) (key_at h2 hi2)
theorem lon_dgs {es es2 : List En} {l1 l2 : List EK} (h : Lon l1 l2) (h1 : es.map En.key = l1) (h2 : es2.map En.key = l2) : (es2.map En.dg).take es.length = es.map En.dg := by
  have hle : es.length ≤ es2.length := by have := h.le; rw [← h1, ← h2, List.length_map, List.length_map] at this; exact this
  apply List.ext_getElem?
  intro i
  rw [List.getElem?_take]
  by_cases hi : i < es.length
  · rw [if_pos hi]
    have e1 : es[i]? = some es[i] := List.getElem?_eq_getElem hi
    have e2 : es2[i]? = some (es2[i]'(by omega)) := List.getElem?_eq_getElem _
    rw [List.getElem?_map, List.getElem?_map, e1, e2]
    have := (lon_at h h1 h2 e1 e2).2.1
    simp [this]
  · rw [if_neg hi, List.getElem?_eq_none (by simp; omega)]
theorem chainN_take {f : Int} {ds : List Dg} {n : Nat} (h : n ≤ ds.length) : chainN f (ds.take n) = chainK f ds n := by
  unfold chainN chainK
  rw [List.length_take, Nat.min_eq_left h, List.take_take, Nat.min_self]
theorem rdL_take {H : Froz} {a : Option Addr} {k : Nat} {els : List (List Value)} (h : RdL H a k els) (n : Nat) : RdL H a k (els.take n) := by
  have he : ∀ x ∈ els.take n, x.length = k := fun x hx => h.each x (List.mem_of_mem_take hx)
  refine ⟨⟨flatten_len he, fun hn => ?_⟩, he⟩
  have hpos : els.length ≠ 0 := by
    rw [List.length_take] at hn
    omega
  obtain ⟨b, o, e1, h2⟩ := h.rd.at_ hpos
  refine ⟨b, o, e1, fun j v hv => h2 j v ?_⟩
  rw [← List.take_append_drop n els, List.flatten_append, List.getElem?_append_left (List.getElem?_eq_some_iff.1 hv).1]
  exact hv
theorem dg_take {H : Froz} {a : Option Addr} {ds : List Dg} (h : RdL H a 32 (dgE ds)) (n : Nat) : RdL H a 32 (dgE (ds.take n)) := by
  have := rdL_take h n
  rwa [show (dgE ds).take n = dgE (ds.take n) by simp [dgE, List.map_take]] at this
theorem dg_drop {H : Froz} {a : Option Addr} {ds : List Dg} {c n : Nat} (h : RdL H a 32 (dgE ds)) (hn : n ≤ ds.length) (hc : ds.length ≤ c) : RdL H (cutA a c n 32) 32 (dgE (ds.drop n)) := by
  have h1 := h.cut (c := c) (l := n) (h := ds.length) hn (by simp [dgE]) hc
  rw [List.take_of_length_le (by simp [dgE])] at h1
  rwa [show (dgE ds).drop n = dgE (ds.drop n) by simp [dgE, List.map_drop]] at h1
theorem sp_each (xs : List Sp) : ∀ x ∈ spE xs, x.length = 4 := fun x hx => by obtain ⟨e, _, rfl⟩ := List.mem_map.1 hx; rfl
theorem spE_all1 (xs : List Sp) : all1 (spE xs).flatten = true := all1_flatten fun e he => by obtain ⟨x, _, rfl⟩ := List.mem_map.1 he; rfl
theorem RdL.rd_sp {H : Froz} {a : Option Addr} {xs : List Sp} (h : RdL H a 4 (spE xs)) : RdS H a xs.length 4 (spE xs).flatten := by
  have := h.rd
  rwa [show (spE xs).length = xs.length by simp [spE]] at this
theorem RdL.of_sp {H : Froz} {a : Option Addr} {xs ys : List Sp} {n : Nat} {cs : List Value} (h : RdS H a n 4 cs) (hn : n = xs.length + ys.length) (hc : cs = (spE xs).flatten ++ (spE ys).flatten) : RdL H a 4 (spE (xs ++ ys)) := by
  subst hn; subst hc
  have e : spE (xs ++ ys) = spE xs ++ spE ys := by simp [spE]
  refine ⟨?_, sp_each _⟩
  rw [e, List.flatten_append]
  rw [show (spE xs ++ spE ys).length = xs.length + ys.length by simp [spE]]
  exact h
end Go.W
namespace Go.Proofs.YtneokajhmonpaaaDoor
open Go Go.RowKit Go.W
set_option maxRecDepth 10000
namespace T42
theorem bt35 : byS Tryd.prog 35 = some 32 := by kernel_rfl
theorem bt58 : byS Tryd.prog 58 = some 48 := by kernel_rfl
theorem en11 : enS Tryd.prog 11 = true := by kernel_rfl
theorem en12 : enS Tryd.prog 12 = true := by kernel_rfl
theorem en13 : enS Tryd.prog 13 = true := by kernel_rfl
theorem en14 : enS Tryd.prog 14 = true := by kernel_rfl
theorem en15 : enS Tryd.prog 15 = true := by kernel_rfl
theorem en16 : enS Tryd.prog 16 = true := by kernel_rfl
theorem en17 : enS Tryd.prog 17 = true := by kernel_rfl
theorem en18 : enS Tryd.prog 18 = true := by kernel_rfl
theorem en19 : enS Tryd.prog 19 = true := by kernel_rfl
theorem fl39_2 : flS Tryd.prog 39 2 = some (2, 1) := by kernel_rfl
theorem fl39_3 : flS Tryd.prog 39 3 = some (3, 32) := by kernel_rfl
theorem fl48_0 : flS Tryd.prog 48 0 = some (0, 1) := by kernel_rfl
theorem fl48_1 : flS Tryd.prog 48 1 = some (1, 32) := by kernel_rfl
theorem fl48_3 : flS Tryd.prog 48 3 = some (34, 1) := by kernel_rfl
theorem gu35 : guS Tryd.prog 35 = true := by kernel_rfl
theorem ty3 : tyS Tryd.prog 3 = some (false, 1) := by kernel_rfl
theorem ty4 : tyS Tryd.prog 4 = some (false, 1) := by kernel_rfl
theorem ty5 : tyS Tryd.prog 5 = some (false, 1) := by kernel_rfl
theorem ty26 : tyS Tryd.prog 26 = some (true, 3) := by kernel_rfl
theorem ty35 : tyS Tryd.prog 35 = some (true, 32) := by kernel_rfl
theorem ty39 : tyS Tryd.prog 39 = some (true, 37) := by kernel_rfl
theorem ty48 : tyS Tryd.prog 48 = some (true, 35) := by kernel_rfl
theorem ty58 : tyS Tryd.prog 58 = some (true, 4) := by kernel_rfl
theorem zr26 : zrS Tryd.prog 26 = some [.int .i64 0, .int .i64 0, .slice none 0 0] := by kernel_rfl
theorem zr35 : zrS Tryd.prog 35 = some (List.replicate 32 (.int .u8 0)) := by kernel_rfl
theorem zr39 : zrS Tryd.prog 39 = some [.int .i64 0, .int .i64 0, .int .i64 0, .int .u8 0, .int .u8 0, .int .u8 0, .int .u8 0, .int .u8 0, .int .u8 0, .int .u8 0, .int .u8 0, .int .u8 0, .int .u8 0, .int .u8 0, .int .u8 0, .int .u8 0, .int .u8 0, .int .u8 0, .int .u8 0, .int .u8 0, .int .u8 0, .int .u8 0, .int .u8 0, .int .u8 0, .int .u8 0, .int .u8 0, .int .u8 0, .int .u8 0, .int .u8 0, .int .u8 0, .int .u8 0, .int .u8 0, .int .u8 0, .int .u8 0, .int .u8 0, .int .i64 0, .int .i64 0] := by kernel_rfl
theorem zr48 : zrS Tryd.prog 48 = some [.int .i64 0, .int .u8 0, .int .u8 0, .int .u8 0, .int .u8 0, .int .u8 0, .int .u8 0, .int .u8 0, .int .u8 0, .int .u8 0, .int .u8 0, .int .u8 0, .int .u8 0, .int .u8 0, .int .u8 0, .int .u8 0, .int .u8 0, .int .u8 0, .int .u8 0, .int .u8 0, .int .u8 0, .int .u8 0, .int .u8 0, .int .u8 0, .int .u8 0, .int .u8 0, .int .u8 0, .int .u8 0, .int .u8 0, .int .u8 0, .int .u8 0, .int .u8 0, .int .u8 0, .slice none 0 0, .bool false] := by kernel_rfl
theorem zr58 : zrS Tryd.prog 58 = some [.int .i64 0, .int .i64 0, .int .i64 0, .slice none 0 0] := by kernel_rfl
theorem mo : Tryd.prog.follows .mixedOrders = true := by kernel_rfl
end T42
open T42

set_option maxHeartbeats 3200000 in
theorem StoreChains_c (xs ys : List Sp) (al al2 : Option Addr) (cl cl2 : Nat) (f : Int) (hsz : xs.length + ys.length ≤ 1000000000) (w : World) (H : Froz) (hz : Fz H w) (hg : Gl 0 1 H) (hr : RdL H al 4 (spE xs)) (ho : SpsOK H xs) (hr2 : RdL H al2 4 (spE ys)) (ho2 : SpsOK H ys) :
    CallsR Tryd.prog 3 [.slice al xs.length cl, .slice al2 ys.length cl2, .int .i64 f] w fun v w' => v = .bool true ∧ St ⟨w, H, []⟩ H [] w' := by
  refine calls_start Tryd.func3 rfl Tryd.ntmps3 rfl (fun a hF => ?_)
  have hS := St.start w H hz
  refine c_seq (fun K1 hK1 => ?_)
  refine c_reg ?_
  refine n_q hF hS (q_assign rfl) rfl (fun a hF => ?_)
  refine hK1 _ _ ?_
  refine c_seq (fun K2 hK2 => ?_)
  refine c_seq (fun K3 hK3 => ?_)
  refine c_reg ?_
  refine n_l rfl (fun K4 hK4 => l_call en11 hF rfl rfl (sane30_c _ _ hS.fz hg) (fun v4 w hR a hF => ?_))
  obtain ⟨rfl, hc⟩ := hR
  replace hS := hS.call0 hc
  refine hK4 _ _ ?_
  refine n_q hF hS (q_not rfl) rfl (fun a hF => ?_)
  refine hK3 _ _ ?_
  refine rw_ hF (s := 26) (u := .bool false) rfl (by rfl) (fun hF => ?_)
  refine c_false hF rfl ?_
  refine wp_skip ?_
  refine hK2 _ _ ?_
  refine c_seq (fun K5 hK5 => ?_)
  refine c_reg ?_
  refine n_q hF hS (q_move rfl) rfl (fun a hF => ?_)
  refine n_l rfl (fun K6 hK6 => l_call en12 hF rfl rfl (play_c xs al cl _ _ hS.fz hg hr ho) (fun v6 w hR a hF => ?_))
  obtain ⟨s, H1, rfl, hle1, hos, hgs, hc⟩ := hR
  replace hS := hS.call hc
  replace hg := hg.mono hle1
  replace hr := hr.mono hle1
  replace ho := ho.mono hle1
  replace hr2 := hr2.mono hle1
  replace ho2 := ho2.mono hle1
  refine hK6 _ _ ?_
  refine n_q hF hS (q_move rfl) rfl (fun a hF => ?_)
  refine n_q hF hS (q_extract (i := 0) rfl rfl) rfl (fun a hF => ?_)
  refine n_q hF hS (q_extract (i := 1) rfl rfl) rfl (fun a hF => ?_)
  refine n_l rfl (fun K7 hK7 => l_alloc hF hS zr26 rfl (fun a w b1 hF hS => hK7 _ _ ?_))
  refine n_l rfl (fun K8 hK8 => l_store0A ty26 hF hS rfl rfl (i := 0) rfl rfl rfl rfl (fun a w hF hS => hK8 _ _ ?_))
  refine n_q hF hS (q_assign rfl) rfl (fun a hF => ?_)
  refine hK5 _ _ ?_
  refine c_seq (fun K9 hK9 => ?_)
  refine c_reg ?_
  refine n_l rfl (fun K10 hK10 => l_buildO (els := []) Tryd.underlying22 ty58 zr58 hF hS rfl rfl rfl (by simp [Value.cells, dc_length, Hd.c_len, En.c_len, List.length_replicate, List.length_cons, List.length_nil, List.length_append]) rfl rfl rfl (fun a w b2 hF hS => hK10 _ _ ?_))
  refine n_q hF hS (q_move rfl) rfl (fun a hF => ?_)
  refine n_l rfl (fun K11 hK11 => l_append (L := [_]) Tryd.underlying22 ty58 zr58 bt58 hF hS rfl rfl (OwS.row0 _ _ _) (.slice Tryd.underlying22 hr.rd_sp (spE_all1 _)) (by omega) (by simp only [maxLen]; omega) rfl rfl (fun a w c4_2 ad4_2 Lx4_2 ho4_2 hF hS => hK11 _ _ ?_))
  refine n_q hF hS (q_move rfl) rfl (fun a hF => ?_)
  refine n_l rfl (fun K12 hK12 => l_append Tryd.underlying22 ty58 zr58 bt58 hF hS rfl rfl (ho4_2) (.slice Tryd.underlying22 hr2.rd_sp (spE_all1 _)) (by omega) (by simp only [maxLen]; omega) rfl rfl (fun a w c4_4 ad4_4 Lx4_4 ho4_4 hF hS => hK12 _ _ ?_))
  obtain ⟨H5, hle5, hS5, hr5⟩ := ho4_4.freeze hS
  replace hS := hS5
  replace hg := hg.mono hle5
  replace ho := ho.mono hle5
  replace ho2 := ho2.mono hle5
  have hrr : RdL H5 ad4_4 4 (spE (xs ++ ys)) := RdL.of_sp hr5 (by omega) (by simp)
  have hoo : SpsOK H5 (xs ++ ys) := fun y hy => by
    rcases List.mem_append.1 hy with hy | hy
    · exact ho y hy
    · exact ho2 y hy
  refine rw_ hF (s := 37) (u := .slice ad4_4 (xs ++ ys).length c4_4) rfl (by rw [List.length_append, Nat.zero_add]) (fun hF => ?_)
  refine n_l rfl (fun K13 hK13 => l_call en12 hF rfl rfl (play_c (xs ++ ys) ad4_4 c4_4 _ _ hS.fz hg hrr hoo) (fun v13 w hR a hF => ?_))
  obtain ⟨x, H2, rfl, hle2, hox, hgx, hc⟩ := hR
  replace hS := hS.call hc
  replace hgs := fun h => (hgs h).mono (hle5.trans hle2)
  replace hg := hg.mono hle2
  refine hK13 _ _ ?_
  refine n_q hF hS (q_move rfl) rfl (fun a hF => ?_)
  refine n_q hF hS (q_extract (i := 0) rfl rfl) rfl (fun a hF => ?_)
  refine n_q hF hS (q_extract (i := 1) rfl rfl) rfl (fun a hF => ?_)
  refine n_l rfl (fun K14 hK14 => l_alloc hF hS zr26 rfl (fun a w b3 hF hS => hK14 _ _ ?_))
  refine n_l rfl (fun K15 hK15 => l_store0A ty26 hF hS rfl rfl (i := 0) rfl rfl rfl rfl (fun a w hF hS => hK15 _ _ ?_))
  refine n_q hF hS (q_assign rfl) rfl (fun a hF => ?_)
  refine hK9 _ _ ?_
  refine c_seq (fun K16 hK16 => ?_)
  refine c_seq (fun K17 hK17 => ?_)
  refine c_reg ?_
  refine n_q hF hS (q_move rfl) rfl (fun a hF => ?_)
  refine n_q hF hS (q_not rfl) rfl (fun a hF => ?_)
  refine n_q hF hS (q_move rfl) rfl (fun a hF => ?_)
  refine sp hF (s := 43) rfl (fun hc43 hF => ?_) (fun hc43 hF => ?_)
  · refine n_no hF (b := true) rfl rfl rfl (fun a hF => ?_)
    refine n_no hF (b := true) rfl rfl rfl (fun a hF => ?_)
    refine n_q hF hS (q_pick (b := true) rfl rfl) rfl (fun a hF => ?_)
    refine n_q hF hS (q_move rfl) rfl (fun a hF => ?_)
    refine n_no hF (b := true) rfl rfl rfl (fun a hF => ?_)
    refine n_no hF (b := true) rfl rfl rfl (fun a hF => ?_)
    refine n_q hF hS (q_pick (b := true) rfl rfl) rfl (fun a hF => ?_)
    refine n_q hF hS (q_move rfl) rfl (fun a hF => ?_)
    refine n_no hF (b := true) rfl rfl rfl (fun a hF => ?_)
    refine n_no hF (b := true) rfl rfl rfl (fun a hF => ?_)
    refine n_q hF hS (q_pick (b := true) rfl rfl) rfl (fun a hF => ?_)
    refine hK17 _ _ ?_
    refine c_true hF rfl ?_
    refine c_seq (fun K18 hK18 => ?_)
    refine c_reg ?_
    refine n_q hF hS (q_assign rfl) rfl (fun a hF => ?_)
    refine hK18 _ _ ?_
    refine c_ret ?_
    repeat (first | refine ret_then ?_ | refine ret_blk ?_)
    refine c_ret' (P := Tryd.prog) (fn := Tryd.f3) rfl hF hS (.tmp rfl .nil) ⟨_, rfl, ?_⟩
    exact ⟨rfl, hS.same⟩
  · refine n_yes hF rfl ?_
    refine n_q hF hS (q_move rfl) rfl (fun a hF => ?_)
    refine n_yes hF rfl ?_
    refine n_q hF hS (q_not rfl) rfl (fun a hF => ?_)
    refine n_q hF hS (q_pick (b := false) rfl rfl) rfl (fun a hF => ?_)
    refine n_q hF hS (q_move rfl) rfl (fun a hF => ?_)
    refine sp hF (s := 47) rfl (fun hc47 hF => ?_) (fun hc47 hF => ?_)
    · refine n_no hF (b := true) rfl rfl rfl (fun a hF => ?_)
      refine n_no hF (b := true) rfl rfl rfl (fun a hF => ?_)
      refine n_q hF hS (q_pick (b := true) rfl rfl) rfl (fun a hF => ?_)
      refine n_q hF hS (q_move rfl) rfl (fun a hF => ?_)
      refine n_no hF (b := true) rfl rfl rfl (fun a hF => ?_)
      refine n_no hF (b := true) rfl rfl rfl (fun a hF => ?_)
      refine n_q hF hS (q_pick (b := true) rfl rfl) rfl (fun a hF => ?_)
      refine hK17 _ _ ?_
      refine c_true hF rfl ?_
      refine c_seq (fun K19 hK19 => ?_)
      refine c_reg ?_
      refine n_q hF hS (q_assign rfl) rfl (fun a hF => ?_)
      refine hK19 _ _ ?_
      refine c_ret ?_
      repeat (first | refine ret_then ?_ | refine ret_blk ?_)
      refine c_ret' (P := Tryd.prog) (fn := Tryd.f3) rfl hF hS (.tmp rfl .nil) ⟨_, rfl, ?_⟩
      exact ⟨rfl, hS.same⟩
    · refine n_yes hF rfl ?_
      refine n_q hF hS (q_move rfl) rfl (fun a hF => ?_)
      refine n_yes hF rfl ?_
      refine n_q hF hS (q_lss rfl rfl) rfl (fun a hF => ?_)
      refine n_q hF hS (q_pick (b := false) rfl rfl) rfl (fun a hF => ?_)
      refine n_q hF hS (q_move rfl) rfl (fun a hF => ?_)
      refine spd hF (s := 51) rfl (fun hc51 hF => ?_) (fun hc51 hF => ?_)
      · refine n_no hF (b := true) rfl rfl rfl (fun a hF => ?_)
        refine n_no hF (b := true) rfl rfl rfl (fun a hF => ?_)
        refine n_q hF hS (q_pick (b := true) rfl rfl) rfl (fun a hF => ?_)
        refine hK17 _ _ ?_
        refine c_true hF rfl ?_
        refine c_seq (fun K20 hK20 => ?_)
        refine c_reg ?_
        refine n_q hF hS (q_assign rfl) rfl (fun a hF => ?_)
        refine hK20 _ _ ?_
        refine c_ret ?_
        repeat (first | refine ret_then ?_ | refine ret_blk ?_)
        refine c_ret' (P := Tryd.prog) (fn := Tryd.f3) rfl hF hS (.tmp rfl .nil) ⟨_, rfl, ?_⟩
        exact ⟨rfl, hS.same⟩
      · refine n_yes hF rfl ?_
        refine n_q hF hS (q_move rfl) rfl (fun a hF => ?_)
        refine n_yes hF rfl ?_
        refine n_q hF hS (q_geq rfl rfl) rfl (fun a hF => ?_)
        refine n_q hF hS (q_pick (b := false) rfl rfl) rfl (fun a hF => ?_)
        refine hK17 _ _ ?_
        refine spd hF (s := 54) rfl (fun hc54 hF => ?_) (fun hc54 hF => ?_)
        · refine c_true hF rfl ?_
          refine c_seq (fun K21 hK21 => ?_)
          refine c_reg ?_
          refine n_q hF hS (q_assign rfl) rfl (fun a hF => ?_)
          refine hK21 _ _ ?_
          refine c_ret ?_
          repeat (first | refine ret_then ?_ | refine ret_blk ?_)
          refine c_ret' (P := Tryd.prog) (fn := Tryd.f3) rfl hF hS (.tmp rfl .nil) ⟨_, rfl, ?_⟩
          exact ⟨rfl, hS.same⟩
        · refine c_false hF rfl ?_
          refine wp_skip ?_
          refine hK16 _ _ ?_
          refine c_seq (fun K22 hK22 => ?_)
          refine c_seq (fun K23 hK23 => ?_)
          refine c_reg ?_
          have hok : playOK (xs.map Sp.key) = true := by simpa using hc43
          have hok2 : playOK ((xs ++ ys).map Sp.key) = true := by simpa using hc47
          replace hgs := hgs hok
          replace hgx := hgx hok2
          have hf16 : 0 ≤ f ∧ f < 16 := by omega
          have hlon := play_lon (xs.map Sp.key) (ys.map Sp.key) f
          rw [← List.map_append] at hlon
          obtain ⟨ks, hks⟩ : ∃ q, q = playKs (xs.map Sp.key) := ⟨_, rfl⟩
          obtain ⟨kx, hkx⟩ : ∃ q, q = playKs ((xs ++ ys).map Sp.key) := ⟨_, rfl⟩
          rw [← hks] at hgs hlon
          rw [← hkx] at hgx hlon
          refine n_q hF hS (q_load0 ty26 rfl (i := 1) rfl rfl rfl) rfl (fun a hF => ?_)
          refine n_l rfl (fun K24 hK24 => l_call en13 hF rfl rfl (SCheck_c s _ _ hS.fz hg hgs.ok) (fun v24 w hR a hF => ?_))
          obtain ⟨hv, hc⟩ := hR
          rw [hgs.check] at hv
          subst hv
          replace hS := hS.call0 hc
          refine hK24 _ _ ?_
          refine n_q hF hS (q_neI rfl rfl) rfl (fun a hF => ?_)
          refine n_q hF hS (q_move rfl) rfl (fun a hF => ?_)
          refine rw_ hF (s := 58) (u := .bool false) rfl (by rfl) (fun hF => ?_)
          refine n_yes hF rfl ?_
          refine n_q hF hS (q_load0 ty26 rfl (i := 0) rfl rfl rfl) rfl (fun a hF => ?_)
          refine n_yes hF rfl ?_
          refine n_l rfl (fun K25 hK25 => l_call en13 hF rfl rfl (SCheck_c x _ _ hS.fz hg hgx.ok) (fun v25 w hR a hF => ?_))
          obtain ⟨hv, hc⟩ := hR
          rw [hgx.check] at hv
          subst hv
          replace hS := hS.call0 hc
          refine hK25 _ _ ?_
          refine n_yes hF rfl ?_
          refine n_q hF hS (q_neI rfl rfl) rfl (fun a hF => ?_)
          refine n_q hF hS (q_pick (b := false) rfl rfl) rfl (fun a hF => ?_)
          refine hK23 _ _ ?_
          refine rw_ hF (s := 62) (u := .bool false) rfl (by rfl) (fun hF => ?_)
          refine c_false hF rfl ?_
          refine wp_skip ?_
          refine hK22 _ _ ?_
          refine c_seq (fun K26 hK26 => ?_)
          refine c_reg ?_
          refine n_q hF hS (q_load0 ty26 rfl (i := 1) rfl rfl rfl) rfl (fun a hF => ?_)
          refine n_q hF hS (q_move rfl) rfl (fun a hF => ?_)
          refine n_l rfl (fun K27 hK27 => l_call en14 hF rfl rfl (Fetch_c s f 1 _ _ hS.fz hg hgs.ok) (fun v27 w hR a hF => ?_))
          obtain ⟨es1, al1, c1, H1, hv, hle1, hkl1, hrl1, hol1, hcl1, hc⟩ := hR
          rw [hgs.fetchE, (fetch_one hf16).1] at hv
          subst hv
          replace hS := hS.call hc
          replace hg := hg.mono hle1
          replace hgs := hgs.mono hle1
          replace hgx := hgx.mono hle1
          rw [hgs.fetchL, (fetch_one hf16).2] at hkl1
          refine hK27 _ _ ?_
          refine n_q hF hS (q_move rfl) rfl (fun a hF => ?_)
          refine n_q hF hS (q_extract (i := 0) rfl rfl) rfl (fun a hF => ?_)
          refine n_q hF hS (q_extract (i := 1) rfl rfl) rfl (fun a hF => ?_)
          refine n_q hF hS (q_assign rfl) rfl (fun a hF => ?_)
          refine n_q hF hS (q_assign rfl) rfl (fun a hF => ?_)
          refine hK26 _ _ ?_
          refine c_seq (fun K28 hK28 => ?_)
          refine c_reg ?_
          refine n_q hF hS (q_load0 ty26 rfl (i := 0) rfl rfl rfl) rfl (fun a hF => ?_)
          refine n_q hF hS (q_move rfl) rfl (fun a hF => ?_)
          refine n_l rfl (fun K29 hK29 => l_call en14 hF rfl rfl (Fetch_c x f 1 _ _ hS.fz hg hgx.ok) (fun v29 w hR a hF => ?_))
          obtain ⟨es2, al2, c2, H2, hv, hle2, hkl2, hrl2, hol2, hcl2, hc⟩ := hR
          rw [hgx.fetchE, (fetch_one hf16).1] at hv
          subst hv
          replace hS := hS.call hc
          replace hg := hg.mono hle2
          replace hgs := hgs.mono hle2
          replace hgx := hgx.mono hle2
          replace hrl1 := hrl1.mono hle2
          replace hol1 := hol1.mono hle2
          rw [hgx.fetchL, (fetch_one hf16).2] at hkl2
          refine hK29 _ _ ?_
          refine n_q hF hS (q_move rfl) rfl (fun a hF => ?_)
          refine n_q hF hS (q_extract (i := 0) rfl rfl) rfl (fun a hF => ?_)
          refine n_q hF hS (q_extract (i := 1) rfl rfl) rfl (fun a hF => ?_)
          refine n_q hF hS (q_assign rfl) rfl (fun a hF => ?_)
          refine n_q hF hS (q_assign rfl) rfl (fun a hF => ?_)
          refine hK28 _ _ ?_
          refine c_seq (fun K30 hK30 => ?_)
          refine c_reg ?_
          have hkn : es1.length = (entK ks f).length := by rw [← hkl1, List.length_map]
          have hkn2 : es2.length = (entK kx f).length := by rw [← hkl2, List.length_map]
          have h65 : es1.length ≤ 65536 := by rw [hkn]; exact (hgs.vk.ent _).le
          have h66 : es2.length ≤ 65536 := by rw [hkn2]; exact (hgx.vk.ent _).le
          have hle12 : es1.length ≤ es2.length := by rw [hkn, hkn2]; exact hlon.le
          refine n_q hF hS (q_load0 ty26 rfl (i := 1) rfl rfl rfl) rfl (fun a hF => ?_)
          refine n_q hF hS (q_move rfl) rfl (fun a hF => ?_)
          refine n_q hF hS (q_move rfl) rfl (fun a hF => ?_)
          refine n_l rfl (fun K31 hK31 => l_call en15 hF rfl rfl (StSign_c s f es1 al1 c1 (by omega) _ _ hS.fz hg hgs.ok hrl1) (fun v31 w hR a hF => ?_))
          obtain ⟨hv, hc⟩ := hR
          have hse : signE s f es1.length = 0 := by rw [hgs.signE, if_pos hf16, if_neg (by omega)]
          rw [hse] at hv
          have hver := hgs.head (f := f) (ds := es1.map En.dg) (keyOk_mid (by decide)) (by decide) hf16 (by rw [List.length_map]; exact h65)
          have hno : (signH s f (es1.map En.dg)).no = (es1.length : Int) := by rw [signH_def, if_pos (by rw [List.length_map]; exact hse)]; show (((es1.map En.dg).length : Nat) : Int) = _; rw [List.length_map]
          have hch : (signH s f (es1.map En.dg)).ch = chainN f (es1.map En.dg) := by rw [signH_def, if_pos (by rw [List.length_map]; exact hse)]; rfl
          obtain ⟨hd, hhd⟩ : ∃ q, q = signH s f (es1.map En.dg) := ⟨_, rfl⟩
          rw [← hhd] at hv hver hno hch
          subst hv
          replace hS := hS.call0 hc
          refine hK31 _ _ ?_
          refine n_q hF hS (q_move rfl) rfl (fun a hF => ?_)
          refine n_q hF hS (q_extract (i := 0) rfl rfl) rfl (fun a hF => ?_)
          refine n_q hF hS (q_extract (i := 1) rfl rfl) rfl (fun a hF => ?_)
          refine n_l rfl (fun K32 hK32 => l_alloc hF hS zr39 rfl (fun a w b4 hF hS => hK32 _ _ ?_))
          refine n_l rfl (fun K33 hK33 => l_store0A ty39 hF hS rfl rfl (i := 0) rfl (by simp [dc_length, Hd.c_len, En.c_len, List.length_replicate, List.length_cons, List.length_nil, List.length_append]) (by simp [dc_length, Hd.c_len, En.c_len, List.length_replicate, List.length_cons, List.length_nil, List.length_append]) (Hd.c_all1 _) (fun a w hF hS => hK33 _ _ ?_))
          refine n_q hF hS (q_assign rfl) rfl (fun a hF => ?_)
          refine hK30 _ _ ?_
          refine c_seq (fun K34 hK34 => ?_)
          refine c_reg ?_
          refine n_l rfl (fun K35 hK35 => l_call en16 hF rfl rfl (Public_c 5 _ _ hS.fz) (fun v35 w hR a hF => ?_))
          obtain ⟨hv, hc⟩ := hR
          rw [pubP2, keyOk_mid (by decide)] at hv
          subst hv
          replace hS := hS.call0 hc
          refine hK35 _ _ ?_
          refine n_q hF hS (q_move rfl) rfl (fun a hF => ?_)
          refine n_q hF hS (q_extract (i := 0) rfl rfl) rfl (fun a hF => ?_)
          refine n_q hF hS (q_extract (i := 1) rfl rfl) rfl (fun a hF => ?_)
          refine n_q hF hS (q_assign rfl) rfl (fun a hF => ?_)
          refine n_q hF hS (q_assign rfl) rfl (fun a hF => ?_)
          refine hK34 _ _ ?_
          refine c_seq (fun K36 hK36 => ?_)
          refine c_seq (fun K37 hK37 => ?_)
          refine c_reg ?_
          refine n_q hF hS (q_move rfl) rfl (fun a hF => ?_)
          refine n_q hF hS (q_neI rfl rfl) rfl (fun a hF => ?_)
          refine n_q hF hS (q_move rfl) rfl (fun a hF => ?_)
          refine rw_ hF (s := 88) (u := .bool false) rfl (by rfl) (fun hF => ?_)
          refine n_yes hF rfl ?_
          refine n_q hF hS (q_move rfl) rfl (fun a hF => ?_)
          refine n_yes hF rfl ?_
          refine n_q hF hS (q_neI rfl rfl) rfl (fun a hF => ?_)
          refine n_q hF hS (q_pick (b := false) rfl rfl) rfl (fun a hF => ?_)
          refine n_q hF hS (q_move rfl) rfl (fun a hF => ?_)
          refine rw_ hF (s := 92) (u := .bool false) rfl (by rfl) (fun hF => ?_)
          refine n_yes hF rfl ?_
          refine n_q hF hS (q_move rfl) rfl (fun a hF => ?_)
          refine n_yes hF rfl ?_
          refine n_q hF hS (q_neI rfl rfl) rfl (fun a hF => ?_)
          refine n_q hF hS (q_pick (b := false) rfl rfl) rfl (fun a hF => ?_)
          refine n_q hF hS (q_move rfl) rfl (fun a hF => ?_)
          refine rw_ hF (s := 96) (u := .bool false) rfl (by rfl) (fun hF => ?_)
          refine n_yes hF rfl ?_
          refine n_q hF hS (q_move rfl) rfl (fun a hF => ?_)
          refine n_yes hF rfl ?_
          refine n_q hF hS (q_neI rfl rfl) rfl (fun a hF => ?_)
          refine n_q hF hS (q_pick (b := false) rfl rfl) rfl (fun a hF => ?_)
          refine n_q hF hS (q_move rfl) rfl (fun a hF => ?_)
          refine rw_ hF (s := 100) (u := .bool false) rfl (by rfl) (fun hF => ?_)
          refine n_yes hF rfl ?_
          refine n_q hF hS (q_move rfl) rfl (fun a hF => ?_)
          refine n_yes hF rfl ?_
          refine n_q hF hS (q_len Tryd.underlying31 rfl rfl) rfl (fun a hF => ?_)
          refine n_yes hF rfl ?_
          refine n_q hF hS (q_move rfl) rfl (fun a hF => ?_)
          refine n_yes hF rfl ?_
          refine n_q hF hS (q_len Tryd.underlying31 rfl rfl) rfl (fun a hF => ?_)
          refine n_yes hF rfl ?_
          refine n_q hF hS (q_gtr rfl rfl) rfl (fun a hF => ?_)
          refine n_q hF hS (q_pick (b := false) rfl rfl) rfl (fun a hF => ?_)
          refine n_q hF hS (q_move rfl) rfl (fun a hF => ?_)
          refine spF hF (s := 107) rfl (by omega) (fun hF => ?_)
          refine n_yes hF rfl ?_
          refine n_q hF hS (q_fieldAddr fl39_2 (by decide) rfl) rfl (fun a hF => ?_)
          refine n_yes hF rfl ?_
          refine n_q hF hS (q_load ty3 rfl (i := 0) rfl (by simp [dc_length, Hd.c_len, En.c_len, List.length_replicate, List.length_cons, List.length_nil, List.length_append]) rfl (show ldv false 1 hd.c 2 = some (.int .i64 hd.no) from rfl)) rfl (fun a hF => ?_)
          refine n_yes hF rfl ?_
          refine n_q hF hS (q_move rfl) rfl (fun a hF => ?_)
          refine n_yes hF rfl ?_
          refine n_q hF hS (q_len Tryd.underlying31 rfl rfl) rfl (fun a hF => ?_)
          refine n_yes hF rfl ?_
          refine n_q hF hS (q_neI rfl rfl) rfl (fun a hF => ?_)
          refine n_q hF hS (q_pick (b := false) rfl rfl) rfl (fun a hF => ?_)
          refine n_q hF hS (q_move rfl) rfl (fun a hF => ?_)
          refine rw_ hF (s := 114) (u := .bool false) rfl (by rw [decide_eq_true (show hd.no = (es1.length : Int) from by exact hno)]; rfl) (fun hF => ?_)
          refine n_yes hF rfl ?_
          refine n_q hF hS (q_move rfl) rfl (fun a hF => ?_)
          refine n_yes hF rfl ?_
          refine n_q hF hS (q_load0 ty39 rfl (i := 0) rfl (by simp [dc_length, Hd.c_len, En.c_len, List.length_replicate, List.length_cons, List.length_nil, List.length_append]) rfl) rfl (fun a hF => ?_)
          refine n_yes hF rfl ?_
          refine n_l rfl (fun K38 hK38 => l_call en17 hF rfl rfl (SV_c (pubP 5).1 hd _ _ hS.fz hg) (fun v38 w hR a hF => ?_))
          obtain ⟨rfl, hc⟩ := hR
          replace hS := hS.call0 hc
          refine hK38 _ _ ?_
          refine n_yes hF rfl ?_
          refine n_q hF hS (q_not rfl) rfl (fun a hF => ?_)
          refine n_q hF hS (q_pick (b := false) rfl rfl) rfl (fun a hF => ?_)
          refine hK37 _ _ ?_
          refine rw_ hF (s := 119) (u := .bool false) rfl (by rw [hver]; rfl) (fun hF => ?_)
          refine c_false hF rfl ?_
          refine wp_skip ?_
          refine hK36 _ _ ?_
          refine c_seq (fun K39 hK39 => ?_)
          refine c_reg ?_
          refine n_l rfl (fun K40 hK40 => l_buildO (els := []) Tryd.underlying45 ty35 zr35 hF hS rfl rfl rfl (by simp [Value.cells, dc_length, Hd.c_len, En.c_len, List.length_replicate, List.length_cons, List.length_nil, List.length_append]) rfl rfl rfl (fun a w b5 hF hS => hK40 _ _ ?_))
          refine n_q hF hS (q_assign rfl) rfl (fun a hF => ?_)
          refine hK39 _ _ ?_
          refine c_seq (fun K41 hK41 => ?_)
          refine c_seq (fun K42 hK42 => ?_)
          refine c_reg ?_
          refine n_q hF hS (q_move rfl) rfl (fun a hF => ?_)
          refine n_q hF hS (q_len Tryd.underlying31 rfl rfl) rfl (fun a hF => ?_)
          refine n_q hF hS (q_move rfl) rfl (fun a hF => ?_)
          refine hK42 _ _ ?_
          refine c_block ?_
          refine c_loopL hF [6, 19, 20, 21, 123, 124, 125, 126, 127, 128, 129, 130, 131, 132, 133, 134, 135, 136, 137, 138, 139, 140, 141, 142, 143, 144, 145, 146, 147, 148, 149, 150, 151, 152, 153, 154, 155, 156, 157, 158, 159, 160, 161, 162, 163, 164, 165, 166, 167, 168, 169]
            (fun g : Nat × Option Addr × Nat × List Blk => [(123, .int .i64 (g.1 : Int)), (19, .slice g.2.1 g.1 g.2.2.1)])
            (fun g => [⟨b4, hd.c, 39⟩, ⟨b3, x.c, 26⟩, ⟨b1, s.c, 26⟩] ++ g.2.2.2)
            (fun g _ => g.1 ≤ es2.length ∧ OwS 35 32 (.slice g.2.1 g.1 g.2.2.1) g.1 (dgE ((es2.map En.dg).take g.1)).flatten g.2.2.2)
            (fun g => es2.length - g.1) ((0, some ⟨b5, 0, none⟩, 0, [⟨b5, [], 35⟩])) ⟨rfl, rfl, trivial⟩ ((St.perm (L := [_] ++ [_, _, _]) (L' := [⟨b4, hd.c, 39⟩, ⟨b3, x.c, 26⟩, ⟨b1, s.c, 26⟩] ++ [⟨b5, [], 35⟩]) hS List.perm_append_comm)) (⟨Nat.zero_le _, OwS.row0 _ _ _⟩) ?_
          clear hF hS
          intro g a w H hle hF hS hJ
          replace hg := hg.mono hle
          replace hgs := hgs.mono hle
          replace hgx := hgx.mono hle
          replace hrl1 := hrl1.mono hle
          replace hol1 := hol1.mono hle
          replace hrl2 := hrl2.mono hle
          replace hol2 := hol2.mono hle
          have hl0 := Le.refl H
          obtain ⟨k, ad, cp, Lx⟩ := g
          obtain ⟨hk, hO⟩ := hJ
          try dsimp only at hF hS hk hO
          refine c_seq (fun K43 hK43 => ?_)
          refine c_reg ?_
          refine n_q hF hS (q_lss rfl rfl) rfl (fun a hF => ?_)
          refine hK43 _ _ ?_
          refine c_seq (fun K44 hK44 => ?_)
          refine spd hF (s := 124) rfl (fun hc124 hF => ?_) (fun hc124 hF => ?_)
          · refine c_true hF rfl ?_
            refine wp_skip ?_
            refine hK44 _ _ ?_
            refine c_seq (fun K45 hK45 => ?_)
            refine c_block ?_
            refine c_seq (fun K46 hK46 => ?_)
            refine c_reg ?_
            have hlt : k < es2.length := by omega
            obtain ⟨e2, he2d⟩ : ∃ q, q = es2[k] := ⟨_, rfl⟩
            have he2? : es2[k]? = some e2 := by rw [he2d]; simp [hlt]
            have hel2 : (enE es2)[k]? = some e2.c := by simp [enE, he2?]
            obtain ⟨e, hed⟩ : ∃ q, q = es1[k]?.getD e2 := ⟨_, rfl⟩
            have he? : k < es1.length → es1[k]? = some e := fun h => by rw [hed, List.getElem?_eq_getElem h]; rfl
            have hel1 : k < es1.length → (enE es1)[k]? = some e.c := fun h => by simp [enE, he? h]
            have hex : k < es1.length → _ := fun h => lon_at hlon hkl1 hkl2 (he? h) he2?
            have hdd : (es2.map En.dg)[k]? = some e2.dg := by rw [List.getElem?_map, he2?]; rfl
            refine n_q hF hS (q_move rfl) rfl (fun a hF => ?_)
            refine n_q hF hS (q_indexAddrS Tryd.underlying31 ty48 rfl rfl (by omega) (hrl2.some (by simp only [enE, List.length_map]; omega))) rfl (fun a hF => ?_)
            refine n_q hF hS (q_loadL0 (v := .agg e2.c.toArray) ty48 rfl hrl2 hel2 (by decide) rfl (En.ld_all e2)) rfl (fun a hF => ?_)
            refine n_l rfl (fun K47 hK47 => l_alloc hF hS zr48 rfl (fun a w b6 hF hS => hK47 _ _ ?_))
            refine n_q hF hS (q_assign rfl) rfl (fun a hF => ?_)
            refine n_l rfl (fun K48 hK48 => l_store0A ty48 hF hS rfl rfl (i := 0) rfl (by simp [dc_length, Hd.c_len, En.c_len, List.length_replicate, List.length_cons, List.length_nil, List.length_append]) (by simp [dc_length, Hd.c_len, En.c_len, List.length_replicate, List.length_cons, List.length_nil, List.length_append]) (En.c_all1 _) (fun a w hF hS => hK48 _ _ ?_))
            refine hK46 _ _ ?_
            refine c_seq (fun K49 hK49 => ?_)
            refine c_seq (fun K50 hK50 => ?_)
            refine r_start (fun L => L) [] mo hS (fun w hS => ?_)
            refine r_q (i := 0) rfl (by kernel_rfl) (by kernel_rfl) rfl (by kernel_rfl) (fun _ _ _ _ h => h) hF hS (q_move rfl) rfl (fun a hF => ?_)
            refine r_q (i := 1) rfl (by kernel_rfl) (by kernel_rfl) rfl (by kernel_rfl) (fun _ _ _ _ h => h) hF hS (q_move rfl) rfl (fun a hF => ?_)
            refine r_q (i := 2) rfl (by kernel_rfl) (by kernel_rfl) rfl (by kernel_rfl) (fun _ _ _ _ h => h) hF hS (q_len Tryd.underlying31 rfl rfl) rfl (fun a hF => ?_)
            refine r_q (i := 3) rfl (by kernel_rfl) (by kernel_rfl) rfl (by kernel_rfl) (fun _ _ _ _ h => h) hF hS (q_lss rfl rfl) rfl (fun a hF => ?_)
            refine r_q (i := 4) rfl (by kernel_rfl) (by kernel_rfl) rfl (by kernel_rfl) (fun _ _ _ _ h => h) hF hS (q_move rfl) rfl (fun a hF => ?_)
            refine spd hF (s := 132) rfl (fun hc132 hF => ?_) (fun hc132 hF => ?_)
            · refine r_qg (i := 5) rfl (by kernel_rfl) (by kernel_rfl) rfl (by kernel_rfl) (fun _ _ _ _ h => h) hF hS rfl (q_move rfl) rfl (fun a hF => ?_)
              refine r_qg (i := 6) rfl (by kernel_rfl) (by kernel_rfl) rfl (by kernel_rfl) (fun _ _ _ _ h => h) hF hS rfl (q_move rfl) rfl (fun a hF => ?_)
              refine r_qg (i := 7) rfl (by kernel_rfl) (by kernel_rfl) rfl (by kernel_rfl) (fun _ _ _ _ h => h) hF hS rfl (q_indexAddrS Tryd.underlying31 ty48 rfl rfl (by omega) (hrl1.some (by simp only [enE, List.length_map]; omega))) rfl (fun a hF => ?_)
              refine r_qg (i := 8) rfl (by kernel_rfl) (by kernel_rfl) rfl (by kernel_rfl) (fun _ _ _ _ h => h) hF hS rfl (q_fieldAddrE fl48_0 (by decide) rfl) rfl (fun a hF => ?_)
              refine r_qg (i := 9) rfl (by kernel_rfl) (by kernel_rfl) rfl (by kernel_rfl) (fun _ _ _ _ h => h) hF hS rfl (q_loadL (off := 0) (i := k) (v := .int .i64 e.kind) ty3 rfl hrl1 (hel1 (by omega)) (by decide) rfl rfl) rfl (fun a hF => ?_)
              refine r_qg (i := 10) rfl (by kernel_rfl) (by kernel_rfl) rfl (by kernel_rfl) (fun _ _ _ _ h => h) hF hS rfl (q_fieldAddr fl48_0 (by decide) rfl) rfl (fun a hF => ?_)
              refine r_qg (i := 11) rfl (by kernel_rfl) (by kernel_rfl) rfl (by kernel_rfl) (fun _ _ _ _ h => h) hF hS rfl (q_load ty3 rfl (i := 0) rfl (by simp [dc_length, Hd.c_len, En.c_len, List.length_replicate, List.length_cons, List.length_nil, List.length_append]) rfl (show ldv false 1 e2.c 0 = some (.int .i64 e2.kind) from rfl)) rfl (fun a hF => ?_)
              refine r_qg (i := 12) rfl (by kernel_rfl) (by kernel_rfl) rfl (by kernel_rfl) (fun _ _ _ _ h => h) hF hS rfl (q_neI rfl rfl) rfl (fun a hF => ?_)
              refine r_qg (i := 13) rfl (by kernel_rfl) (by kernel_rfl) rfl (by kernel_rfl) (fun _ _ _ _ h => h) hF hS rfl (q_move rfl) rfl (fun a hF => ?_)
              refine rw_ hF (s := 141) (u := .bool false) rfl (by rw [decide_eq_true (show e.kind = e2.kind from by exact (hex (by omega)).1)]; rfl) (fun hF => ?_)
              refine r_qg (i := 14) rfl (by kernel_rfl) (by kernel_rfl) rfl (by kernel_rfl) (fun _ _ _ _ h => h) hF hS rfl (q_move rfl) rfl (fun a hF => ?_)
              refine r_qg (i := 15) rfl (by kernel_rfl) (by kernel_rfl) rfl (by kernel_rfl) (fun _ _ _ _ h => h) hF hS rfl (q_move rfl) rfl (fun a hF => ?_)
              refine r_qg (i := 16) rfl (by kernel_rfl) (by kernel_rfl) rfl (by kernel_rfl) (fun _ _ _ _ h => h) hF hS rfl (q_indexAddrS Tryd.underlying31 ty48 rfl rfl (by omega) (hrl1.some (by simp only [enE, List.length_map]; omega))) rfl (fun a hF => ?_)
              refine r_qg (i := 17) rfl (by kernel_rfl) (by kernel_rfl) rfl (by kernel_rfl) (fun _ _ _ _ h => h) hF hS rfl (q_fieldAddrE fl48_1 (by decide) rfl) rfl (fun a hF => ?_)
              refine r_qg (i := 18) rfl (by kernel_rfl) (by kernel_rfl) rfl (by kernel_rfl) (fun _ _ _ _ h => h) hF hS rfl (q_loadL (off := 1) (i := k) (v := .agg (dc e.dg).toArray) ty35 rfl hrl1 (hel1 (by omega)) (by decide) rfl (En.ld_dg e)) rfl (fun a hF => ?_)
              refine r_qg (i := 19) rfl (by kernel_rfl) (by kernel_rfl) rfl (by kernel_rfl) (fun _ _ _ _ h => h) hF hS rfl (q_fieldAddr fl48_1 (by decide) rfl) rfl (fun a hF => ?_)
              refine r_qg (i := 20) rfl (by kernel_rfl) (by kernel_rfl) rfl (by kernel_rfl) (fun _ _ _ _ h => h) hF hS rfl (q_load ty35 rfl (i := 0) rfl (by simp [dc_length, Hd.c_len, En.c_len, List.length_replicate, List.length_cons, List.length_nil, List.length_append]) rfl (En.ld_dg e2)) rfl (fun a hF => ?_)
              refine r_qg (i := 21) rfl (by kernel_rfl) (by kernel_rfl) rfl (by kernel_rfl) (fun _ _ _ _ h => h) hF hS rfl (q_neDg gu35 Tryd.underlying35 Tryd.underlying5 ty5 rfl rfl) rfl (fun a hF => ?_)
              refine r_qg (i := 22) rfl (by kernel_rfl) (by kernel_rfl) rfl (by kernel_rfl) (fun _ _ _ _ h => h) hF hS rfl (q_pick (b := false) rfl rfl) rfl (fun a hF => ?_)
              refine r_qg (i := 23) rfl (by kernel_rfl) (by kernel_rfl) rfl (by kernel_rfl) (fun _ _ _ _ h => h) hF hS rfl (q_move rfl) rfl (fun a hF => ?_)
              refine rw_ hF (s := 151) (u := .bool false) rfl (by rw [decide_eq_true (show e.dg = e2.dg from by exact (hex (by omega)).2.1)]; rfl) (fun hF => ?_)
              refine r_qg (i := 24) rfl (by kernel_rfl) (by kernel_rfl) rfl (by kernel_rfl) (fun _ _ _ _ h => h) hF hS rfl (q_move rfl) rfl (fun a hF => ?_)
              refine r_qg (i := 25) rfl (by kernel_rfl) (by kernel_rfl) rfl (by kernel_rfl) (fun _ _ _ _ h => h) hF hS rfl (q_move rfl) rfl (fun a hF => ?_)
              refine r_qg (i := 26) rfl (by kernel_rfl) (by kernel_rfl) rfl (by kernel_rfl) (fun _ _ _ _ h => h) hF hS rfl (q_indexAddrS Tryd.underlying31 ty48 rfl rfl (by omega) (hrl1.some (by simp only [enE, List.length_map]; omega))) rfl (fun a hF => ?_)
              refine r_qg (i := 27) rfl (by kernel_rfl) (by kernel_rfl) rfl (by kernel_rfl) (fun _ _ _ _ h => h) hF hS rfl (q_fieldAddrE fl48_3 (by decide) rfl) rfl (fun a hF => ?_)
              refine r_qg (i := 28) rfl (by kernel_rfl) (by kernel_rfl) rfl (by kernel_rfl) (fun _ _ _ _ h => h) hF hS rfl (q_loadL (off := 34) (i := k) (v := .bool e.gone) ty4 rfl hrl1 (hel1 (by omega)) (by decide) rfl (En.ld_go e)) rfl (fun a hF => ?_)
              refine r_qg (i := 29) rfl (by kernel_rfl) (by kernel_rfl) rfl (by kernel_rfl) (fun _ _ _ _ h => h) hF hS rfl (q_move rfl) rfl (fun a hF => ?_)
              refine sp hF (s := 157) rfl (fun hc157 hF => ?_) (fun hc157 hF => ?_)
              · refine r_qg (i := 30) rfl (by kernel_rfl) (by kernel_rfl) rfl (by kernel_rfl) (fun _ _ _ _ h => h) hF hS rfl (q_fieldAddr fl48_3 (by decide) rfl) rfl (fun a hF => ?_)
                refine r_qg (i := 31) rfl (by kernel_rfl) (by kernel_rfl) rfl (by kernel_rfl) (fun _ _ _ _ h => h) hF hS rfl (q_load ty4 rfl (i := 0) rfl (by simp [dc_length, Hd.c_len, En.c_len, List.length_replicate, List.length_cons, List.length_nil, List.length_append]) rfl (En.ld_go e2)) rfl (fun a hF => ?_)
                refine r_qg (i := 32) rfl (by kernel_rfl) (by kernel_rfl) rfl (by kernel_rfl) (fun _ _ _ _ h => h) hF hS rfl (q_not rfl) rfl (fun a hF => ?_)
                refine r_qg (i := 33) rfl (by kernel_rfl) (by kernel_rfl) rfl (by kernel_rfl) (fun _ _ _ _ h => h) hF hS rfl (q_pick (b := true) rfl rfl) rfl (fun a hF => ?_)
                refine r_qg (i := 34) rfl (by kernel_rfl) (by kernel_rfl) rfl (by kernel_rfl) (fun _ _ _ _ h => h) hF hS rfl (q_pick (b := false) rfl rfl) rfl (fun a hF => ?_)
                refine r_q (i := 35) rfl (by kernel_rfl) (by kernel_rfl) rfl (by kernel_rfl) (fun _ _ _ _ h => h) hF hS (q_pick (b := true) rfl rfl) rfl (fun a hF => ?_)
                refine r_done (by kernel_rfl) ?_
                refine hK50 _ _ ?_
                refine rw_ hF (s := 163) (u := .bool false) rfl (by rw [(hex (by omega)).2.2 hc157]; rfl) (fun hF => ?_)
                refine c_false hF rfl ?_
                refine wp_skip ?_
                refine hK49 _ _ ?_
                refine c_reg ?_
                refine n_q hF hS (q_move rfl) rfl (fun a hF => ?_)
                refine n_q hF hS (q_fieldAddr fl48_1 (by decide) rfl) rfl (fun a hF => ?_)
                refine n_q hF hS (q_load ty35 rfl (i := 0) rfl (by simp [dc_length, Hd.c_len, En.c_len, List.length_replicate, List.length_cons, List.length_nil, List.length_append]) rfl (En.ld_dg e2)) rfl (fun a hF => ?_)
                refine n_l rfl (fun K51 hK51 => l_buildF (els := [dc e2.dg]) Tryd.underlying45 ty35 zr35 hF hS rfl rfl rfl (fun e he => by rw [List.mem_singleton.1 he]; exact dc_length _) rfl rfl rfl (fun a w b7 hF hle hS r21_3 => ?_))
                replace hg := hg.mono hle
                replace hgs := hgs.mono hle
                replace hgx := hgx.mono hle
                replace hrl1 := hrl1.mono hle
                replace hol1 := hol1.mono hle
                replace hrl2 := hrl2.mono hle
                replace hol2 := hol2.mono hle
                replace hl0 := hl0.mono hle
                refine hK51 _ _ ?_
                replace hS := St.perm (L := [_, _, _, _] ++ Lx) (L' := Lx ++ [_, _, _, _]) hS List.perm_append_comm
                refine n_l rfl (fun K52 hK52 => l_append Tryd.underlying45 ty35 zr35 bt35 hF hS rfl rfl (hO) (.slice Tryd.underlying45 r21_3.rd (by simp only [List.flatten_cons, List.flatten_nil, List.append_nil]; exact dc_all1 _)) (by omega) (by simp only [maxLen]; omega) rfl rfl (fun a w c21_4 ad21_4 Lx21_4 ho21_4 hF hS => hK52 _ _ ?_))
                replace hS := hS.perm (L' := [_, _, _, _] ++ Lx21_4) List.perm_append_comm
                refine n_q hF hS (q_assign rfl) rfl (fun a hF => ?_)
                refine hK45 _ _ ?_
                refine c_reg ?_
                refine n_q hF hS (q_addI rfl rfl (by omega)) rfl (fun a hF => ?_)
                refine n_q hF hS (q_move rfl) rfl (fun a hF => ?_)
                exact ⟨(k + 1, ad21_4, c21_4, Lx21_4), _, (by show es2.length - (k + 1) < es2.length - k; omega), hl0, hF.back ⟨rfl, rfl, trivial⟩ rfl (by repeat first | exact Ext.refl _ _ | refine Ext.rem' rfl ?_ | refine Ext.push rfl ?_), hS.lose (.cons _ (.refl _)), ⟨by show k + 1 ≤ es2.length; omega, by show OwS _ _ _ _ _ _; rw [dgE_snoc hdd]; exact ho21_4⟩⟩
              · refine r_no (b := false) (i := 30) rfl (by kernel_rfl) (by kernel_rfl) rfl (by kernel_rfl) (fun _ _ _ _ h => h) hF hS rfl rfl rfl (fun a hF => ?_)
                refine r_no (b := false) (i := 31) rfl (by kernel_rfl) (by kernel_rfl) rfl (by kernel_rfl) (fun _ _ _ _ h => h) hF hS rfl rfl rfl (fun a hF => ?_)
                refine r_no (b := false) (i := 32) rfl (by kernel_rfl) (by kernel_rfl) rfl (by kernel_rfl) (fun _ _ _ _ h => h) hF hS rfl rfl rfl (fun a hF => ?_)
                refine r_qg (i := 33) rfl (by kernel_rfl) (by kernel_rfl) rfl (by kernel_rfl) (fun _ _ _ _ h => h) hF hS rfl (q_pick (b := false) rfl rfl) rfl (fun a hF => ?_)
                refine r_qg (i := 34) rfl (by kernel_rfl) (by kernel_rfl) rfl (by kernel_rfl) (fun _ _ _ _ h => h) hF hS rfl (q_pick (b := false) rfl rfl) rfl (fun a hF => ?_)
                refine r_q (i := 35) rfl (by kernel_rfl) (by kernel_rfl) rfl (by kernel_rfl) (fun _ _ _ _ h => h) hF hS (q_pick (b := true) rfl rfl) rfl (fun a hF => ?_)
                refine r_done (by kernel_rfl) ?_
                refine hK50 _ _ ?_
                refine c_false hF rfl ?_
                refine wp_skip ?_
                refine hK49 _ _ ?_
                refine c_reg ?_
                refine n_q hF hS (q_move rfl) rfl (fun a hF => ?_)
                refine n_q hF hS (q_fieldAddr fl48_1 (by decide) rfl) rfl (fun a hF => ?_)
                refine n_q hF hS (q_load ty35 rfl (i := 0) rfl (by simp [dc_length, Hd.c_len, En.c_len, List.length_replicate, List.length_cons, List.length_nil, List.length_append]) rfl (En.ld_dg e2)) rfl (fun a hF => ?_)
                refine n_l rfl (fun K53 hK53 => l_buildF (els := [dc e2.dg]) Tryd.underlying45 ty35 zr35 hF hS rfl rfl rfl (fun e he => by rw [List.mem_singleton.1 he]; exact dc_length _) rfl rfl rfl (fun a w b8 hF hle hS r21_3 => ?_))
                replace hg := hg.mono hle
                replace hgs := hgs.mono hle
                replace hgx := hgx.mono hle
                replace hrl1 := hrl1.mono hle
                replace hol1 := hol1.mono hle
                replace hrl2 := hrl2.mono hle
                replace hol2 := hol2.mono hle
                replace hl0 := hl0.mono hle
                refine hK53 _ _ ?_
                replace hS := St.perm (L := [_, _, _, _] ++ Lx) (L' := Lx ++ [_, _, _, _]) hS List.perm_append_comm
                refine n_l rfl (fun K54 hK54 => l_append Tryd.underlying45 ty35 zr35 bt35 hF hS rfl rfl (hO) (.slice Tryd.underlying45 r21_3.rd (by simp only [List.flatten_cons, List.flatten_nil, List.append_nil]; exact dc_all1 _)) (by omega) (by simp only [maxLen]; omega) rfl rfl (fun a w c21_4 ad21_4 Lx21_4 ho21_4 hF hS => hK54 _ _ ?_))
                replace hS := hS.perm (L' := [_, _, _, _] ++ Lx21_4) List.perm_append_comm
                refine n_q hF hS (q_assign rfl) rfl (fun a hF => ?_)
                refine hK45 _ _ ?_
                refine c_reg ?_
                refine n_q hF hS (q_addI rfl rfl (by omega)) rfl (fun a hF => ?_)
                refine n_q hF hS (q_move rfl) rfl (fun a hF => ?_)
                exact ⟨(k + 1, ad21_4, c21_4, Lx21_4), _, (by show es2.length - (k + 1) < es2.length - k; omega), hl0, hF.back ⟨rfl, rfl, trivial⟩ rfl (by repeat first | exact Ext.refl _ _ | refine Ext.rem' rfl ?_ | refine Ext.push rfl ?_), hS.lose (.cons _ (.refl _)), ⟨by show k + 1 ≤ es2.length; omega, by show OwS _ _ _ _ _ _; rw [dgE_snoc hdd]; exact ho21_4⟩⟩
            · refine r_no (b := false) (i := 5) rfl (by kernel_rfl) (by kernel_rfl) rfl (by kernel_rfl) (fun _ _ _ _ h => h) hF hS rfl rfl rfl (fun a hF => ?_)
              refine r_no (b := false) (i := 6) rfl (by kernel_rfl) (by kernel_rfl) rfl (by kernel_rfl) (fun _ _ _ _ h => h) hF hS rfl rfl rfl (fun a hF => ?_)
              refine r_no (b := false) (i := 7) rfl (by kernel_rfl) (by kernel_rfl) rfl (by kernel_rfl) (fun _ _ _ _ h => h) hF hS rfl rfl rfl (fun a hF => ?_)
              refine r_no (b := false) (i := 8) rfl (by kernel_rfl) (by kernel_rfl) rfl (by kernel_rfl) (fun _ _ _ _ h => h) hF hS rfl rfl rfl (fun a hF => ?_)
              refine r_no (b := false) (i := 9) rfl (by kernel_rfl) (by kernel_rfl) rfl (by kernel_rfl) (fun _ _ _ _ h => h) hF hS rfl rfl rfl (fun a hF => ?_)
              refine r_no (b := false) (i := 10) rfl (by kernel_rfl) (by kernel_rfl) rfl (by kernel_rfl) (fun _ _ _ _ h => h) hF hS rfl rfl rfl (fun a hF => ?_)
              refine r_no (b := false) (i := 11) rfl (by kernel_rfl) (by kernel_rfl) rfl (by kernel_rfl) (fun _ _ _ _ h => h) hF hS rfl rfl rfl (fun a hF => ?_)
              refine r_no (b := false) (i := 12) rfl (by kernel_rfl) (by kernel_rfl) rfl (by kernel_rfl) (fun _ _ _ _ h => h) hF hS rfl rfl rfl (fun a hF => ?_)
              refine r_no (b := false) (i := 13) rfl (by kernel_rfl) (by kernel_rfl) rfl (by kernel_rfl) (fun _ _ _ _ h => h) hF hS rfl rfl rfl (fun a hF => ?_)
              refine r_nou (i := 14) rfl (by kernel_rfl) (by kernel_rfl) rfl (by kernel_rfl) (fun _ _ _ _ h => h) hF hS rfl rfl (fun a hF => ?_)
              refine r_nou (i := 15) rfl (by kernel_rfl) (by kernel_rfl) rfl (by kernel_rfl) (fun _ _ _ _ h => h) hF hS rfl rfl (fun a hF => ?_)
              refine r_nou (i := 16) rfl (by kernel_rfl) (by kernel_rfl) rfl (by kernel_rfl) (fun _ _ _ _ h => h) hF hS rfl rfl (fun a hF => ?_)
              refine r_nou (i := 17) rfl (by kernel_rfl) (by kernel_rfl) rfl (by kernel_rfl) (fun _ _ _ _ h => h) hF hS rfl rfl (fun a hF => ?_)
              refine r_nou (i := 18) rfl (by kernel_rfl) (by kernel_rfl) rfl (by kernel_rfl) (fun _ _ _ _ h => h) hF hS rfl rfl (fun a hF => ?_)
              refine r_nou (i := 19) rfl (by kernel_rfl) (by kernel_rfl) rfl (by kernel_rfl) (fun _ _ _ _ h => h) hF hS rfl rfl (fun a hF => ?_)
              refine r_nou (i := 20) rfl (by kernel_rfl) (by kernel_rfl) rfl (by kernel_rfl) (fun _ _ _ _ h => h) hF hS rfl rfl (fun a hF => ?_)
              refine r_nou (i := 21) rfl (by kernel_rfl) (by kernel_rfl) rfl (by kernel_rfl) (fun _ _ _ _ h => h) hF hS rfl rfl (fun a hF => ?_)
              refine r_no (b := false) (i := 22) rfl (by kernel_rfl) (by kernel_rfl) rfl (by kernel_rfl) (fun _ _ _ _ h => h) hF hS rfl rfl rfl (fun a hF => ?_)
              refine r_no (b := false) (i := 23) rfl (by kernel_rfl) (by kernel_rfl) rfl (by kernel_rfl) (fun _ _ _ _ h => h) hF hS rfl rfl rfl (fun a hF => ?_)
              refine r_nou (i := 24) rfl (by kernel_rfl) (by kernel_rfl) rfl (by kernel_rfl) (fun _ _ _ _ h => h) hF hS rfl rfl (fun a hF => ?_)
              refine r_nou (i := 25) rfl (by kernel_rfl) (by kernel_rfl) rfl (by kernel_rfl) (fun _ _ _ _ h => h) hF hS rfl rfl (fun a hF => ?_)
              refine r_nou (i := 26) rfl (by kernel_rfl) (by kernel_rfl) rfl (by kernel_rfl) (fun _ _ _ _ h => h) hF hS rfl rfl (fun a hF => ?_)
              refine r_nou (i := 27) rfl (by kernel_rfl) (by kernel_rfl) rfl (by kernel_rfl) (fun _ _ _ _ h => h) hF hS rfl rfl (fun a hF => ?_)
              refine r_nou (i := 28) rfl (by kernel_rfl) (by kernel_rfl) rfl (by kernel_rfl) (fun _ _ _ _ h => h) hF hS rfl rfl (fun a hF => ?_)
              refine r_nou (i := 29) rfl (by kernel_rfl) (by kernel_rfl) rfl (by kernel_rfl) (fun _ _ _ _ h => h) hF hS rfl rfl (fun a hF => ?_)
              refine r_nou (i := 30) rfl (by kernel_rfl) (by kernel_rfl) rfl (by kernel_rfl) (fun _ _ _ _ h => h) hF hS rfl rfl (fun a hF => ?_)
              refine r_nou (i := 31) rfl (by kernel_rfl) (by kernel_rfl) rfl (by kernel_rfl) (fun _ _ _ _ h => h) hF hS rfl rfl (fun a hF => ?_)
              refine r_nou (i := 32) rfl (by kernel_rfl) (by kernel_rfl) rfl (by kernel_rfl) (fun _ _ _ _ h => h) hF hS rfl rfl (fun a hF => ?_)
              refine r_nou (i := 33) rfl (by kernel_rfl) (by kernel_rfl) rfl (by kernel_rfl) (fun _ _ _ _ h => h) hF hS rfl rfl (fun a hF => ?_)
              refine r_no (b := false) (i := 34) rfl (by kernel_rfl) (by kernel_rfl) rfl (by kernel_rfl) (fun _ _ _ _ h => h) hF hS rfl rfl rfl (fun a hF => ?_)
              refine r_q (i := 35) rfl (by kernel_rfl) (by kernel_rfl) rfl (by kernel_rfl) (fun _ _ _ _ h => h) hF hS (q_pick (b := false) rfl rfl) rfl (fun a hF => ?_)
              refine r_done (by kernel_rfl) ?_
              refine hK50 _ _ ?_
              refine c_false hF rfl ?_
              refine wp_skip ?_
              refine hK49 _ _ ?_
              refine c_reg ?_
              refine n_q hF hS (q_move rfl) rfl (fun a hF => ?_)
              refine n_q hF hS (q_fieldAddr fl48_1 (by decide) rfl) rfl (fun a hF => ?_)
              refine n_q hF hS (q_load ty35 rfl (i := 0) rfl (by simp [dc_length, Hd.c_len, En.c_len, List.length_replicate, List.length_cons, List.length_nil, List.length_append]) rfl (En.ld_dg e2)) rfl (fun a hF => ?_)
              refine n_l rfl (fun K55 hK55 => l_buildF (els := [dc e2.dg]) Tryd.underlying45 ty35 zr35 hF hS rfl rfl rfl (fun e he => by rw [List.mem_singleton.1 he]; exact dc_length _) rfl rfl rfl (fun a w b9 hF hle hS r21_3 => ?_))
              replace hg := hg.mono hle
              replace hgs := hgs.mono hle
              replace hgx := hgx.mono hle
              replace hrl1 := hrl1.mono hle
              replace hol1 := hol1.mono hle
              replace hrl2 := hrl2.mono hle
              replace hol2 := hol2.mono hle
              replace hl0 := hl0.mono hle
              refine hK55 _ _ ?_
              replace hS := St.perm (L := [_, _, _, _] ++ Lx) (L' := Lx ++ [_, _, _, _]) hS List.perm_append_comm
              refine n_l rfl (fun K56 hK56 => l_append Tryd.underlying45 ty35 zr35 bt35 hF hS rfl rfl (hO) (.slice Tryd.underlying45 r21_3.rd (by simp only [List.flatten_cons, List.flatten_nil, List.append_nil]; exact dc_all1 _)) (by omega) (by simp only [maxLen]; omega) rfl rfl (fun a w c21_4 ad21_4 Lx21_4 ho21_4 hF hS => hK56 _ _ ?_))
              replace hS := hS.perm (L' := [_, _, _, _] ++ Lx21_4) List.perm_append_comm
              refine n_q hF hS (q_assign rfl) rfl (fun a hF => ?_)
              refine hK45 _ _ ?_
              refine c_reg ?_
              refine n_q hF hS (q_addI rfl rfl (by omega)) rfl (fun a hF => ?_)
              refine n_q hF hS (q_move rfl) rfl (fun a hF => ?_)
              exact ⟨(k + 1, ad21_4, c21_4, Lx21_4), _, (by show es2.length - (k + 1) < es2.length - k; omega), hl0, hF.back ⟨rfl, rfl, trivial⟩ rfl (by repeat first | exact Ext.refl _ _ | refine Ext.rem' rfl ?_ | refine Ext.push rfl ?_), hS.lose (.cons _ (.refl _)), ⟨by show k + 1 ≤ es2.length; omega, by show OwS _ _ _ _ _ _; rw [dgE_snoc hdd]; exact ho21_4⟩⟩
          · refine c_false hF rfl ?_
            refine c_exit ?_
            refine hK41 _ _ ?_
            refine c_seq (fun K57 hK57 => ?_)
            refine c_reg ?_
            obtain rfl : k = es2.length := by omega
            rw [List.take_of_length_le (by simp)] at hO
            have hcp := hO.le
            obtain ⟨H9, hle9, hS9, hr9⟩ := hO.freeze (St.perm (L := [_, _, _] ++ Lx) (L' := Lx ++ [_, _, _]) hS List.perm_append_comm)
            replace hS := hS9
            replace hg := hg.mono hle9
            replace hgs := hgs.mono hle9
            replace hgx := hgx.mono hle9
            replace hrl1 := hrl1.mono hle9
            replace hol1 := hol1.mono hle9
            replace hrl2 := hrl2.mono hle9
            replace hol2 := hol2.mono hle9
            obtain ⟨dsb, hdsb⟩ : ∃ q, q = es2.map En.dg := ⟨_, rfl⟩
            have hdl : dsb.length = es2.length := by rw [hdsb, List.length_map]
            have hdr : RdL H9 ad 32 (dgE dsb) := RdL.of_dg (by rw [hdl, hdsb]; exact hr9)
            have hdt : dsb.take es1.length = es1.map En.dg := by rw [hdsb]; exact lon_dgs hlon hkl1 hkl2
            refine n_q hF hS (q_move rfl) rfl (fun a hF => ?_)
            refine n_q hF hS (q_move rfl) rfl (fun a hF => ?_)
            refine n_q hF hS (q_move rfl) rfl (fun a hF => ?_)
            refine n_q hF hS (q_len Tryd.underlying31 rfl rfl) rfl (fun a hF => ?_)
            refine n_q hF hS (q_cast (u := .slice ad (dsb.take es1.length).length cp) (q_sliceP (h := es1.length) Tryd.underlying45 ty35 rfl rfl (by omega)) (by rw [List.length_take, Nat.min_eq_left (by omega)])) rfl (fun a hF => ?_)
            refine n_l rfl (fun K58 hK58 => l_call en18 hF rfl rfl (SChain_c f (dsb.take es1.length) ad cp (by rw [List.length_take]; omega) _ _ hS.fz hg (dg_take hdr _)) (fun v58 w hR a hF => ?_))
            obtain ⟨rfl, hc⟩ := hR
            replace hS := hS.call0 hc
            refine hK58 _ _ ?_
            refine n_l rfl (fun K59 hK59 => l_alloc hF hS zr35 rfl (fun a w b10 hF hS => hK59 _ _ ?_))
            refine n_l rfl (fun K60 hK60 => l_store0A ty35 hF hS rfl rfl (i := 0) rfl (by simp [dc_length, Hd.c_len, En.c_len, List.length_replicate, List.length_cons, List.length_nil, List.length_append]) (by simp [dc_length, Hd.c_len, En.c_len, List.length_replicate, List.length_cons, List.length_nil, List.length_append]) (dc_all1 _) (fun a w hF hS => hK60 _ _ ?_))
            refine hK57 _ _ ?_
            refine c_seq (fun K61 hK61 => ?_)
            refine c_seq (fun K62 hK62 => ?_)
            refine c_reg ?_
            refine n_q hF hS (q_load0 ty35 rfl (i := 0) rfl (by simp [dc_length, Hd.c_len, En.c_len, List.length_replicate, List.length_cons, List.length_nil, List.length_append]) rfl) rfl (fun a hF => ?_)
            refine n_q hF hS (q_fieldAddr fl39_3 (by decide) rfl) rfl (fun a hF => ?_)
            refine n_q hF hS (q_load ty35 rfl (i := 1) rfl (by simp [dc_length, Hd.c_len, En.c_len, List.length_replicate, List.length_cons, List.length_nil, List.length_append]) rfl (Hd.ld_ch hd)) rfl (fun a hF => ?_)
            refine n_q hF hS (q_neDg gu35 Tryd.underlying35 Tryd.underlying5 ty5 rfl rfl) rfl (fun a hF => ?_)
            refine hK62 _ _ ?_
            refine rw_ hF (s := 179) (u := .bool false) rfl (by rw [decide_eq_true (show chainN f (dsb.take es1.length) = hd.ch from by rw [hdt, hch])]; rfl) (fun hF => ?_)
            refine c_false hF rfl ?_
            refine wp_skip ?_
            refine hK61 _ _ ?_
            refine c_seq (fun K63 hK63 => ?_)
            refine c_seq (fun K64 hK64 => ?_)
            refine c_reg ?_
            refine n_q hF hS (q_move rfl) rfl (fun a hF => ?_)
            refine n_q hF hS (q_move rfl) rfl (fun a hF => ?_)
            refine n_q hF hS (q_len Tryd.underlying31 rfl rfl) rfl (fun a hF => ?_)
            refine n_q hF hS (q_cast (u := .slice (cutA ad cp es1.length 32) (dsb.drop es1.length).length (cp - es1.length)) (q_sliceF (l := es1.length) Tryd.underlying45 ty35 rfl rfl (by omega)) (by rw [List.length_drop, hdl])) rfl (fun a hF => ?_)
            refine n_q hF hS (q_len Tryd.underlying45 rfl rfl) rfl (fun a hF => ?_)
            refine n_q hF hS (q_move rfl) rfl (fun a hF => ?_)
            refine hK64 _ _ ?_
            refine c_block ?_
            have hdl9 : (dsb.drop es1.length).length = dsb.length - es1.length := List.length_drop
            have hdr2 := dg_drop hdr (show es1.length ≤ dsb.length by omega) (by rw [hdl]; exact hcp)
            rw [chainN_take (show es1.length ≤ dsb.length by omega)] at hS
            refine c_loopL hF [24, 185, 186, 187, 188, 189, 190, 191, 192]
              (fun j : Nat => [(185, .int .i64 (j : Int))])
              (fun j => [⟨b10, dc (chainK f dsb (es1.length + j)), 35⟩] ++ [⟨b4, hd.c, 39⟩, ⟨b3, x.c, 26⟩, ⟨b1, s.c, 26⟩])
              (fun j _ => j ≤ (dsb.drop es1.length).length)
              (fun j => (dsb.drop es1.length).length - j) (0) ⟨rfl, trivial⟩ (hS) (Nat.zero_le _) ?_
            clear hF hS
            intro j a w H hle hF hS hJ
            replace hg := hg.mono hle
            replace hgs := hgs.mono hle
            replace hgx := hgx.mono hle
            replace hrl1 := hrl1.mono hle
            replace hol1 := hol1.mono hle
            replace hrl2 := hrl2.mono hle
            replace hol2 := hol2.mono hle
            have hl1 := Le.refl H
            try dsimp only at hF hJ hS
            replace hdr := hdr.mono hle
            replace hdr2 := hdr2.mono hle
            refine c_seq (fun K65 hK65 => ?_)
            refine c_reg ?_
            refine n_q hF hS (q_lss rfl rfl) rfl (fun a hF => ?_)
            refine hK65 _ _ ?_
            refine c_seq (fun K66 hK66 => ?_)
            refine spd hF (s := 186) rfl (fun hc186 hF => ?_) (fun hc186 hF => ?_)
            · refine c_true hF rfl ?_
              refine wp_skip ?_
              refine hK66 _ _ ?_
              refine c_seq (fun K67 hK67 => ?_)
              refine c_block ?_
              refine c_seq (fun K68 hK68 => ?_)
              refine c_reg ?_
              have hjl : j < (dsb.drop es1.length).length := by omega
              have hjn : es1.length + j < dsb.length := by rw [List.length_drop] at hjl; omega
              obtain ⟨d, hdd⟩ : ∃ q, q = dsb[es1.length + j] := ⟨_, rfl⟩
              have hel : (dgE (dsb.drop es1.length))[j]? = some (dc d) := by simp [dgE, hdd, hjn]
              refine n_q hF hS (q_indexAddrS Tryd.underlying45 ty35 rfl rfl (by omega) (hdr2.some (by simp only [dgE, List.length_map]; omega))) rfl (fun a hF => ?_)
              refine n_q hF hS (q_loadL0 (v := .agg (dc d).toArray) ty35 rfl hdr2 hel (by decide) rfl (by simp only [ldv, cond_true, List.drop_zero]; rw [List.take_of_length_le (by rw [dc_length]; exact Nat.le_refl _)])) rfl (fun a hF => ?_)
              refine n_l rfl (fun K69 hK69 => l_alloc hF hS zr35 rfl (fun a w b11 hF hS => hK69 _ _ ?_))
              refine n_l rfl (fun K70 hK70 => l_store0A ty35 hF hS rfl rfl (i := 0) rfl (by simp [dc_length, Hd.c_len, En.c_len, List.length_replicate, List.length_cons, List.length_nil, List.length_append]) (by simp [dc_length, Hd.c_len, En.c_len, List.length_replicate, List.length_cons, List.length_nil, List.length_append]) (by first | exact dc_all1 _ | rfl | simp [all1]) (fun a w hF hS => hK70 _ _ ?_))
              refine hK68 _ _ ?_
              refine c_reg ?_
              refine n_q hF hS (q_load0 ty35 rfl (i := 1) rfl (by simp [dc_length, Hd.c_len, En.c_len, List.length_replicate, List.length_cons, List.length_nil, List.length_append]) rfl) rfl (fun a hF => ?_)
              refine n_q hF hS (q_load0 ty35 rfl (i := 0) rfl (by simp [dc_length, Hd.c_len, En.c_len, List.length_replicate, List.length_cons, List.length_nil, List.length_append]) rfl) rfl (fun a hF => ?_)
              refine n_l rfl (fun K71 hK71 => l_call en19 hF rfl rfl (DChain_c (chainK f dsb (es1.length + j)) d _ _ hS.fz hg) (fun v71 w hR a hF => ?_))
              obtain ⟨rfl, hc⟩ := hR
              replace hS := hS.call0 hc
              refine hK71 _ _ ?_
              refine n_l rfl (fun K72 hK72 => l_store0A ty35 hF hS rfl rfl (i := 1) rfl (by simp [dc_length, Hd.c_len, En.c_len, List.length_replicate, List.length_cons, List.length_nil, List.length_append]) (by simp [dc_length, Hd.c_len, En.c_len, List.length_replicate, List.length_cons, List.length_nil, List.length_append]) (by first | exact dc_all1 _ | rfl | simp [all1]) (fun a w hF hS => hK72 _ _ ?_))
              refine hK67 _ _ ?_
              refine c_reg ?_
              refine n_q hF hS (q_addI rfl rfl (by omega)) rfl (fun a hF => ?_)
              refine n_q hF hS (q_move rfl) rfl (fun a hF => ?_)
              exact ⟨j + 1, _, (by show (dsb.drop es1.length).length - (j + 1) < (dsb.drop es1.length).length - j; omega), hl1, hF.back ⟨rfl, trivial⟩ rfl (by repeat first | exact Ext.refl _ _ | refine Ext.rem' rfl ?_ | refine Ext.push rfl ?_), (by rw [show es1.length + (j + 1) = (es1.length + j) + 1 from rfl, chainK_succ hjn, ← hdd]; exact hS.lose (.cons _ (.refl _))), (by show j + 1 ≤ _; omega)⟩
            · refine c_false hF rfl ?_
              refine c_exit ?_
              refine hK63 _ _ ?_
              refine c_seq (fun K73 hK73 => ?_)
              refine rw_ hF (s := 19) (u := .slice ad dsb.length cp) rfl (by rw [hdl]) (fun hF => ?_)
              refine r_start (fun L => L) [] mo hS (fun w hS => ?_)
              refine r_q (i := 0) rfl (by kernel_rfl) (by kernel_rfl) rfl (by kernel_rfl) (fun _ _ _ _ h => h) hF hS (q_load0 ty35 rfl (i := 0) rfl (by simp [dc_length, Hd.c_len, En.c_len, List.length_replicate, List.length_cons, List.length_nil, List.length_append]) rfl) rfl (fun a hF => ?_)
              refine r_q (i := 1) rfl (by kernel_rfl) (by kernel_rfl) rfl (by kernel_rfl) (fun _ _ _ _ h => h) hF hS (q_move rfl) rfl (fun a hF => ?_)
              refine r_q (i := 2) rfl (by kernel_rfl) (by kernel_rfl) rfl (by kernel_rfl) (fun _ _ _ _ h => h) hF hS (q_move rfl) rfl (fun a hF => ?_)
              refine r_one (i := 3) (by kernel_rfl) ?_
              have hsub := hS.sub
              refine r_li rfl rfl (fun K74 hK74 => l_call en18 hF rfl rfl (SChain_c f dsb ad cp (by omega) _ _ hS.fz hg hdr) (fun v74 w hR a hF => ?_))
              obtain ⟨rfl, hc⟩ := hR
              replace hS := hS.call0 hc
              refine hK74 _ _ _ hS (fun _ h => h) ?_
              refine r_q (i := 4) rfl (by kernel_rfl) (by kernel_rfl) rfl (by kernel_rfl) (fun _ _ _ _ h => h) hF hS (q_eqDg gu35 Tryd.underlying35 Tryd.underlying5 ty5 rfl rfl) rfl (fun a hF => ?_)
              refine r_q (i := 5) rfl (by kernel_rfl) (by kernel_rfl) rfl (by kernel_rfl) (fun _ _ _ _ h => h) hF hS (q_assign rfl) rfl (fun a hF => ?_)
              refine r_done (by kernel_rfl) ?_
              refine hK73 _ _ ?_
              refine c_ret ?_
              repeat (first | refine ret_then ?_ | refine ret_blk ?_)
              refine c_ret' (P := Tryd.prog) (fn := Tryd.f3) rfl hF hS (.tmp rfl .nil) ⟨_, rfl, ?_⟩
              refine ⟨?_, hS.same⟩
              show Value.bool (decide (chainK f dsb (es1.length + j) = chainN f dsb)) = _
              rw [decide_eq_true (show chainK f dsb (es1.length + j) = chainN f dsb from by rw [show es1.length + j = dsb.length by omega]; rfl)]
end Go.Proofs.YtneokajhmonpaaaDoor
/- StoreChains: whatever the steps, the further steps and the folder, of bulk at most 1048576: the law answers true, and its arguments read as they did. CONDITION: the two tables of package digest read as the program's text lays them (the card ties that). -/
namespace Go.Proofs.YtneokajhmonpaaaDoor
open Go Go.RowKit Go.W Go.ChangeShapes Go.WideShapes
set_option maxRecDepth 100000
namespace Bulk
theorem one_le {H : Type} (d : DataW H) : 1 ≤ Rows.uptoBulk d := by
  cases d with
  | lit l => cases l <;> simp [Rows.uptoBulk]
  | nil => simp [Rows.uptoBulk]
  | ptr d => simp [Rows.uptoBulk]
  | slice elems spare => simp [Rows.uptoBulk]
  | agg parts => simp [Rows.uptoBulk]
  | iface t d => simp [Rows.uptoBulk]
  | map entries => simp [Rows.uptoBulk]
  | held h => simp [Rows.uptoBulk]
theorem length_le {H : Type} (l : List (DataW H)) : l.length ≤ Rows.uptoBulkAll l := by
  induction l with
  | nil => simp [Rows.uptoBulkAll]
  | cons x r ih => have := one_le x; simp only [Rows.uptoBulkAll, List.length_cons]; omega
theorem dlen_le {H : Type} (d : DataW H) : dlen d ≤ Rows.uptoBulk d := by
  cases d with
  | slice elems spare =>
    have h1 := length_le elems
    simp only [Rows.uptoBulk, dlen]
    omega
  | _ => exact Nat.zero_le _
end Bulk
theorem chains_reads (os : Os) {H : Type} (enc : TypeId × Value → H) : ∃ places, DataW.whole enc Tryd.prog ((World.doorLaid Tryd.prog 4000 os).forCall (fun _ _ => 0) ⟨#[], #[.slice none 0 0, .slice none 0 0, .int .i64 0], []⟩).memory Tryd.f3.params.toList Rows.storeChainsSpec.vars false #[Value.slice none 0 0, .slice none 0 0, .int .i64 0].toList 8 = some ([.nil, .nil, .lit (.int .i64 0)], [], places) :=
  ⟨[], by kernel_rfl⟩
theorem chains_lifted (os : Os) (started : os.Started) (H : Type) (enc : TypeId × Value → H) (F : Stop.Interp) :
    ReturnsInHanded {} Tryd.checked os 3 .any ((Rows.OpenSpec.upto Rows.storeChainsSpec).preRow enc Tryd.prog Tryd.f3 Rows.storeChainsUptoRow.domain false Rows.storeChainsUptoRow.laid) (((Rows.OpenSpec.upto Rows.storeChainsSpec).at F).post enc Tryd.prog Tryd.f3 false true false false) := by
  obtain ⟨places, hx⟩ := chains_reads os enc
  refine returnsInHanded_of_row (C := Tryd.checked) (s := Rows.OpenSpec.upto Rows.storeChainsSpec) Fin.own started (by kernel_rfl) Tryd.func3
    (witness_row_at (enc := enc) (C := Tryd.checked) false (World.doorLaid Tryd.prog 4000 os) #[.slice none 0 0, .slice none 0 0, .int .i64 0] rfl (by kernel_rfl) (by kernel_rfl) (by kernel_rfl)
      (OpenSpec.preRow_of_cond 8 hx (by kernel_rfl) (fun k hk => by cases hk; kernel_rfl) (by kernel_rfl) (Fin.door_met os _))) ?_
  intro W base args ds gs before hval0 hW _ hcond _ hL _ _
  have hval : ∀ (j : Nat) t v, Tryd.f3.params[j]? = some t → args[j]? = some v → Value.okWide Tryd.prog W .any base t v := hval0
  have hW' : DataW.Whole enc Tryd.prog Tryd.f3.params.toList Rows.storeChainsSpec.vars false W args.toList ds gs before := hW
  have hbig : Rows.uptoSmall H (ds ++ gs) = true := hcond _ rfl
  obtain ⟨p, q, hA0, hV, rfl, hfz, hnd⟩ := hW
  have hA : DataW.TrodAll enc Tryd.prog W 0 (fun _ => true) true Tryd.f3.params.toList args.toList ds p := hA0
  rw [Tryd.params3] at hA hval
  obtain ⟨v0, v1, v2, d0, d1, d2, p0, p1, p2, rfl, rfl, rfl, h0, h1, h2⟩ := trodAll_three hA
  obtain ⟨f, rfl, rfl, rfl, _⟩ := open_int Tryd.underlying3 (hval 2 3 v2 rfl rfl) h2
  obtain ⟨n0, h0⟩ := h0
  obtain ⟨n1, h1⟩ := h1
  obtain ⟨al, xs, cl, e0, _, _, hr, ho⟩ := trod_steps (t3 := 3) (tb := 46) (te := 5) (by simp) Tryd.underlying22 Tryd.underlying58 Tryd.underlying3 Tryd.underlying46 Tryd.underlying5 Fin.c58 Fin.c3 Fin.c46 Fin.c5 h0
  obtain ⟨al2, ys, cl2, e1, _, _, hr2, ho2⟩ := trod_steps (t3 := 3) (tb := 46) (te := 5) (by simp) Tryd.underlying22 Tryd.underlying58 Tryd.underlying3 Tryd.underlying46 Tryd.underlying5 Fin.c58 Fin.c3 Fin.c46 Fin.c5 h1
  rw [e0] at h0
  rw [e1] at h1
  have l0 := trod_dlen Tryd.underlying22 h0
  have l1 := trod_dlen Tryd.underlying22 h1
  have hsz : xs.length + ys.length ≤ 1000000000 := by
    have h9 : Rows.uptoBulkAll ([d0, d1, .lit (.int .i64 f)] ++ gs) ≤ 1048576 := of_decide_eq_true hbig
    have b0 := Bulk.dlen_le d0
    have b1 := Bulk.dlen_le d1
    simp only [List.cons_append, Rows.uptoBulkAll] at h9
    simp only at l0 l1
    omega
  obtain rfl : v0 = .slice al xs.length cl := by obtain ⟨_, _, _, e⟩ := okWide_slice Tryd.underlying22 (hval 0 22 v0 rfl rfl); exact one_slice e e0
  obtain rfl : v1 = .slice al2 ys.length cl2 := by obtain ⟨_, _, _, e⟩ := okWide_slice Tryd.underlying22 (hval 1 22 v1 rfl rfl); exact one_slice e e1
  refine Calls.mono (StoreChains_c xs ys al al2 cl cl2 f hsz W (HW W) (HW.fz W) (Fin.gl hL) hr ho hr2 ho2) ?_
  rintro e W' ⟨v, rfl, rfl, hS⟩
  exact ⟨_, rfl, post_true (s := Rows.storeChainsSpec) Fin.kids Fin.full (fun t ht => by
    have h9 : (Tryd.f3.params.toList.all fun t => decide (t < Tryd.prog.types.size)) = true := by kernel_rfl
    exact of_decide_eq_true (List.all_eq_true.1 h9 t ht)) Tryd.underlying4 (by kernel_rfl) rfl hW' (fun gs hg => by rw [hg]; rfl) hS⟩
theorem chains_holds : Rows.StoreChainsUptoSaid :=
  OpenClaim.holds_of_cond 3 Tryd.f3 rfl rfl rfl rfl rfl rfl rfl ⟨rfl, rfl, rfl, rfl, rfl⟩ rfl rfl rfl rfl rfl (by kernel_rfl) Tryd.func3 (by kernel_rfl)
    (of_decide_eq_true (by kernel_rfl)) (by unfold Func.isWrapper; first | (rw [if_pos (by decide +kernel)]; kernel_rfl) | (rw [if_neg (by decide +kernel)]; exact ⟨rfl, rfl⟩))
    (fun os started H enc _ F => by rw [OpenClaim.pre_eq_preRow]; exact chains_lifted os started H enc F)
theorem chains_card : Rows.StoreChainsUptoCardSaid :=
  Claim7.holds_tied_plain_at .later [] _ _ _ _ chains_holds (fun _ h => by cases h) (by kernel_rfl) (fun _ h => by cases h) storeChainsUpto_row_tie rfl ⟨rfl, rfl⟩ (by kernel_rfl) rfl
    (fun f fn hf hfn => by
      obtain rfl : f = 3 := Option.some.inj ((show Tryd.prog.funcNamed "chartroom/chartroomlaw30.StoreChains" = some 3 by kernel_rfl).symm.trans hf) |>.symm
      obtain rfl : fn = Tryd.f3 := (Option.some.inj (Tryd.func3.symm.trans hfn)).symm
      exact ⟨by kernel_rfl, fun j t ht => by
        rw [Tryd.params3] at ht
        have hm : t ∈ [22, 22, 3] := by simpa using Array.mem_of_getElem? ht
        have hall : ([22, 22, 3].all fun u => !Tryd.prog.wantsStandIn u) = true := by kernel_rfl
        exact (show Tryd.prog.wantsStandIn t = false by simpa using List.all_eq_true.1 hall t hm)⟩)
    (by kernel_rfl)
#print axioms chains_card
end Go.Proofs.YtneokajhmonpaaaDoor
