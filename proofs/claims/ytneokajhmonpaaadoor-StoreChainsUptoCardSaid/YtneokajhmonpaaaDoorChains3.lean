import Derived.Test.YtneokajhmonpaaaDoorChains2
import Derived.Test.YtneokajhmonpaaaDoorChecked
/- A part of the proofs of the statements about the chartroom program (YtneokajhmonpaaaDoor): the walk and the plain law. -/
set_option linter.unusedSimpArgs false
set_option linter.unusedVariables false
namespace Go.Proofs.YtneokajhmonpaaaDoor
open Go Go.RowKit Go.W
set_option maxRecDepth 10000
namespace T17
theorem en63 : enS Tryd.prog 63 = true := by kernel_rfl
theorem en64 : enS Tryd.prog 64 = true := by kernel_rfl
theorem en93 : enS Tryd.prog 93 = true := by kernel_rfl
theorem en98 : enS Tryd.prog 98 = true := by kernel_rfl
theorem fl67_0 : flS Tryd.prog 67 0 = some (0, 1) := by kernel_rfl
theorem fl67_1 : flS Tryd.prog 67 1 = some (1, 1) := by kernel_rfl
theorem fl67_2 : flS Tryd.prog 67 2 = some (2, 1) := by kernel_rfl
theorem fl67_3 : flS Tryd.prog 67 3 = some (3, 1) := by kernel_rfl
theorem fl124_0 : flS Tryd.prog 124 0 = some (0, 1) := by kernel_rfl
theorem ty3 : tyS Tryd.prog 3 = some (false, 1) := by kernel_rfl
theorem ty4 : tyS Tryd.prog 4 = some (false, 1) := by kernel_rfl
theorem ty9 : tyS Tryd.prog 9 = some (false, 1) := by kernel_rfl
theorem ty65 : tyS Tryd.prog 65 = some (false, 1) := by kernel_rfl
theorem ty67 : tyS Tryd.prog 67 = some (true, 4) := by kernel_rfl
theorem ty122 : tyS Tryd.prog 122 = some (false, 1) := by kernel_rfl
theorem ty124 : tyS Tryd.prog 124 = some (true, 1) := by kernel_rfl
theorem ty186 : tyS Tryd.prog 186 = some (true, 4) := by kernel_rfl
theorem zr67 : zrS Tryd.prog 67 = some [.int .i64 0, .int .i64 0, .string ⟨#[]⟩, .slice none 0 0] := by kernel_rfl
theorem zr186 : zrS Tryd.prog 186 = some [.bool false, .bool false, .bool false, .bool false] := by kernel_rfl
theorem mo : Tryd.prog.follows .mixedOrders = true := by kernel_rfl
end T17
open T17

theorem formedI_c (n : Int) (w : World) (H : Froz) (hz : Fz H w) : CallsR Tryd.prog 93 [.agg #[.int .i64 1, .int .i64 n, .string ⟨#[]⟩, .slice none 0 0]] w fun v w' => v = .tuple #[.int .i64 0, .bool true] ∧ St ⟨w, H, []⟩ H [] w' := by
  refine calls_start Tryd.func93 rfl Tryd.ntmps93 rfl (fun a hF => ?_)
  have hS := St.start w H hz
  refine c_seq (fun K1 hK1 => ?_)
  refine c_reg ?_
  refine n_l rfl (fun K2 hK2 => l_boxA hF hS rfl rfl (fun a w b1 hF hS => hK2 _ _ ?_))
  refine n_q hF hS (q_assign rfl) rfl (fun a hF => ?_)
  refine n_q hF hS (q_assign rfl) rfl (fun a hF => ?_)
  refine hK1 _ _ ?_
  refine c_seq (fun K3 hK3 => ?_)
  refine c_reg ?_
  refine n_q hF hS (q_fieldAddr fl67_2 (by decide) rfl) rfl (fun a hF => ?_)
  refine n_q hF hS (q_load ty9 rfl (i := 0) rfl rfl rfl rfl) rfl (fun a hF => ?_)
  refine n_q hF hS (q_eqStr rfl rfl) rfl (fun a hF => ?_)
  refine n_q hF hS (q_move rfl) rfl (fun a hF => ?_)
  refine rw_ hF (s := 12) (u := .bool true) rfl (by simp) (fun hF => ?_)
  refine n_yes hF rfl ?_
  refine n_q hF hS (q_fieldAddr fl67_3 (by decide) rfl) rfl (fun a hF => ?_)
  refine n_yes hF rfl ?_
  refine n_q hF hS (q_load ty65 rfl (i := 0) rfl rfl rfl rfl) rfl (fun a hF => ?_)
  refine n_yes hF rfl ?_
  refine n_q hF hS (q_len Tryd.underlying65 rfl rfl) rfl (fun a hF => ?_)
  refine n_yes hF rfl ?_
  refine n_q hF hS (q_eqI rfl rfl) rfl (fun a hF => ?_)
  refine n_q hF hS (q_pick (b := true) rfl rfl) rfl (fun a hF => ?_)
  refine n_q hF hS (q_fieldAddr fl67_1 (by decide) rfl) rfl (fun a hF => ?_)
  refine n_q hF hS (q_load ty3 rfl (i := 0) rfl rfl rfl rfl) rfl (fun a hF => ?_)
  refine n_q hF hS (q_eqI rfl rfl) rfl (fun a hF => ?_)
  refine n_q hF hS (q_move rfl) rfl (fun a hF => ?_)
  refine spd hF (s := 21) rfl (fun hc21 hF => ?_) (fun hc21 hF => ?_)
  · refine n_yes hF rfl ?_
    refine n_q hF hS (q_fieldAddr fl67_3 (by decide) rfl) rfl (fun a hF => ?_)
    refine n_yes hF rfl ?_
    refine n_q hF hS (q_load ty65 rfl (i := 0) rfl rfl rfl rfl) rfl (fun a hF => ?_)
    refine n_yes hF rfl ?_
    refine n_q hF hS (q_len Tryd.underlying65 rfl rfl) rfl (fun a hF => ?_)
    refine n_yes hF rfl ?_
    refine n_q hF hS (q_eqI rfl rfl) rfl (fun a hF => ?_)
    refine n_q hF hS (q_pick (b := true) rfl rfl) rfl (fun a hF => ?_)
    refine n_q hF hS (q_fieldAddr fl67_1 (by decide) rfl) rfl (fun a hF => ?_)
    refine n_q hF hS (q_load ty3 rfl (i := 0) rfl rfl rfl rfl) rfl (fun a hF => ?_)
    refine n_q hF hS (q_eqI rfl rfl) rfl (fun a hF => ?_)
    refine n_q hF hS (q_move rfl) rfl (fun a hF => ?_)
    refine spd hF (s := 30) rfl (fun hc30 hF => ?_) (fun hc30 hF => ?_)
    · refine n_yes hF rfl ?_
      refine n_q hF hS (q_fieldAddr fl67_2 (by decide) rfl) rfl (fun a hF => ?_)
      refine n_yes hF rfl ?_
      refine n_q hF hS (q_load ty9 rfl (i := 0) rfl rfl rfl rfl) rfl (fun a hF => ?_)
      refine n_yes hF rfl ?_
      refine n_q hF hS (q_eqStr rfl rfl) rfl (fun a hF => ?_)
      refine n_q hF hS (q_pick (b := true) rfl rfl) rfl (fun a hF => ?_)
      refine n_q hF hS (q_buildA (cs := [_, _, _, _]) Tryd.underlying186 ty4 zr186 rfl (by first | rfl | simp [bldA, spl, dc_length, List.length_replicate, List.length_cons, List.length_nil, List.length_append])) rfl (fun a hF => ?_)
      refine n_l rfl (fun K4 hK4 => l_alloc hF hS zr186 rfl (fun a w b2 hF hS => hK4 _ _ ?_))
      refine n_l rfl (fun K5 hK5 => l_store0A ty186 hF hS rfl rfl (i := 0) rfl rfl rfl rfl (fun a w hF hS => hK5 _ _ ?_))
      refine hK3 _ _ ?_
      refine c_seq (fun K6 hK6 => ?_)
      refine c_seq (fun K7 hK7 => ?_)
      refine c_reg ?_
      refine n_q hF hS (q_fieldAddr fl67_0 (by decide) rfl) rfl (fun a hF => ?_)
      refine n_q hF hS (q_load ty3 rfl (i := 1) rfl rfl rfl rfl) rfl (fun a hF => ?_)
      refine n_q hF hS (q_lss rfl rfl) rfl (fun a hF => ?_)
      refine n_q hF hS (q_move rfl) rfl (fun a hF => ?_)
      refine spF hF (s := 39) rfl (by decide) (fun hF => ?_)
      refine n_yes hF rfl ?_
      refine n_q hF hS (q_fieldAddr fl67_0 (by decide) rfl) rfl (fun a hF => ?_)
      refine n_yes hF rfl ?_
      refine n_q hF hS (q_load ty3 rfl (i := 1) rfl rfl rfl rfl) rfl (fun a hF => ?_)
      refine n_yes hF rfl ?_
      refine n_q hF hS (q_gtr rfl rfl) rfl (fun a hF => ?_)
      refine n_q hF hS (q_pick (b := false) rfl rfl) rfl (fun a hF => ?_)
      refine n_q hF hS (q_move rfl) rfl (fun a hF => ?_)
      refine spF hF (s := 44) rfl (by decide) (fun hF => ?_)
      refine n_yes hF rfl ?_
      refine n_q hF hS (q_fieldAddr fl67_0 (by decide) rfl) rfl (fun a hF => ?_)
      refine n_yes hF rfl ?_
      refine n_q hF hS (q_load ty3 rfl (i := 1) rfl rfl rfl rfl) rfl (fun a hF => ?_)
      refine n_yes hF rfl ?_
      refine n_q hF hS (q_indexAddrAj (j := 1) Tryd.underlying186 ty4 rfl rfl (by decide) (by decide)) rfl (fun a hF => ?_)
      refine n_yes hF rfl ?_
      refine n_q hF hS (q_load ty4 rfl (i := 0) rfl rfl rfl rfl) rfl (fun a hF => ?_)
      refine n_yes hF rfl ?_
      refine n_q hF hS (q_not rfl) rfl (fun a hF => ?_)
      refine n_q hF hS (q_pick (b := false) rfl rfl) rfl (fun a hF => ?_)
      refine hK7 _ _ ?_
      refine rw_ hF (s := 50) (u := .bool false) rfl (by simp) (fun hF => ?_)
      refine c_false hF rfl ?_
      refine wp_skip ?_
      refine hK6 _ _ ?_
      refine c_seq (fun K8 hK8 => ?_)
      refine c_seq (fun K9 hK9 => ?_)
      refine c_reg ?_
      refine n_q hF hS (q_fieldAddr fl67_0 (by decide) rfl) rfl (fun a hF => ?_)
      refine n_q hF hS (q_load ty3 rfl (i := 1) rfl rfl rfl rfl) rfl (fun a hF => ?_)
      refine n_q hF hS (q_lss rfl rfl) rfl (fun a hF => ?_)
      refine hK9 _ _ ?_
      refine spT hF (s := 53) rfl (by decide) (fun hF => ?_)
      refine c_true hF rfl ?_
      refine c_seq (fun K10 hK10 => ?_)
      refine c_reg ?_
      refine n_q hF hS (q_assign rfl) rfl (fun a hF => ?_)
      refine n_q hF hS (q_assign rfl) rfl (fun a hF => ?_)
      refine hK10 _ _ ?_
      refine c_ret ?_
      repeat (first | refine ret_then ?_ | refine ret_blk ?_)
      refine c_ret' (P := Tryd.prog) (fn := Tryd.f93) rfl hF hS (.tmp rfl (.tmp rfl .nil)) ⟨_, rfl, ?_⟩
      refine ⟨?_, hS.same⟩
      rfl
    · refine n_no hF (b := false) rfl rfl rfl (fun a hF => ?_)
      refine n_no hF (b := false) rfl rfl rfl (fun a hF => ?_)
      refine n_no hF (b := false) rfl rfl rfl (fun a hF => ?_)
      refine n_q hF hS (q_pick (b := false) rfl rfl) rfl (fun a hF => ?_)
      refine n_q hF hS (q_buildA (cs := [_, _, _, _]) Tryd.underlying186 ty4 zr186 rfl (by first | rfl | simp [bldA, spl, dc_length, List.length_replicate, List.length_cons, List.length_nil, List.length_append])) rfl (fun a hF => ?_)
      refine n_l rfl (fun K11 hK11 => l_alloc hF hS zr186 rfl (fun a w b3 hF hS => hK11 _ _ ?_))
      refine n_l rfl (fun K12 hK12 => l_store0A ty186 hF hS rfl rfl (i := 0) rfl rfl rfl rfl (fun a w hF hS => hK12 _ _ ?_))
      refine hK3 _ _ ?_
      refine c_seq (fun K13 hK13 => ?_)
      refine c_seq (fun K14 hK14 => ?_)
      refine c_reg ?_
      refine n_q hF hS (q_fieldAddr fl67_0 (by decide) rfl) rfl (fun a hF => ?_)
      refine n_q hF hS (q_load ty3 rfl (i := 1) rfl rfl rfl rfl) rfl (fun a hF => ?_)
      refine n_q hF hS (q_lss rfl rfl) rfl (fun a hF => ?_)
      refine n_q hF hS (q_move rfl) rfl (fun a hF => ?_)
      refine spF hF (s := 39) rfl (by decide) (fun hF => ?_)
      refine n_yes hF rfl ?_
      refine n_q hF hS (q_fieldAddr fl67_0 (by decide) rfl) rfl (fun a hF => ?_)
      refine n_yes hF rfl ?_
      refine n_q hF hS (q_load ty3 rfl (i := 1) rfl rfl rfl rfl) rfl (fun a hF => ?_)
      refine n_yes hF rfl ?_
      refine n_q hF hS (q_gtr rfl rfl) rfl (fun a hF => ?_)
      refine n_q hF hS (q_pick (b := false) rfl rfl) rfl (fun a hF => ?_)
      refine n_q hF hS (q_move rfl) rfl (fun a hF => ?_)
      refine spF hF (s := 44) rfl (by decide) (fun hF => ?_)
      refine n_yes hF rfl ?_
      refine n_q hF hS (q_fieldAddr fl67_0 (by decide) rfl) rfl (fun a hF => ?_)
      refine n_yes hF rfl ?_
      refine n_q hF hS (q_load ty3 rfl (i := 1) rfl rfl rfl rfl) rfl (fun a hF => ?_)
      refine n_yes hF rfl ?_
      refine n_q hF hS (q_indexAddrAj (j := 1) Tryd.underlying186 ty4 rfl rfl (by decide) (by decide)) rfl (fun a hF => ?_)
      refine n_yes hF rfl ?_
      refine n_q hF hS (q_load ty4 rfl (i := 0) rfl rfl rfl rfl) rfl (fun a hF => ?_)
      refine n_yes hF rfl ?_
      refine n_q hF hS (q_not rfl) rfl (fun a hF => ?_)
      refine n_q hF hS (q_pick (b := false) rfl rfl) rfl (fun a hF => ?_)
      refine hK14 _ _ ?_
      refine rw_ hF (s := 50) (u := .bool false) rfl (by simp) (fun hF => ?_)
      refine c_false hF rfl ?_
      refine wp_skip ?_
      refine hK13 _ _ ?_
      refine c_seq (fun K15 hK15 => ?_)
      refine c_seq (fun K16 hK16 => ?_)
      refine c_reg ?_
      refine n_q hF hS (q_fieldAddr fl67_0 (by decide) rfl) rfl (fun a hF => ?_)
      refine n_q hF hS (q_load ty3 rfl (i := 1) rfl rfl rfl rfl) rfl (fun a hF => ?_)
      refine n_q hF hS (q_lss rfl rfl) rfl (fun a hF => ?_)
      refine hK16 _ _ ?_
      refine spT hF (s := 53) rfl (by decide) (fun hF => ?_)
      refine c_true hF rfl ?_
      refine c_seq (fun K17 hK17 => ?_)
      refine c_reg ?_
      refine n_q hF hS (q_assign rfl) rfl (fun a hF => ?_)
      refine n_q hF hS (q_assign rfl) rfl (fun a hF => ?_)
      refine hK17 _ _ ?_
      refine c_ret ?_
      repeat (first | refine ret_then ?_ | refine ret_blk ?_)
      refine c_ret' (P := Tryd.prog) (fn := Tryd.f93) rfl hF hS (.tmp rfl (.tmp rfl .nil)) ⟨_, rfl, ?_⟩
      refine ⟨?_, hS.same⟩
      rfl
  · refine n_no hF (b := false) rfl rfl rfl (fun a hF => ?_)
    refine n_no hF (b := false) rfl rfl rfl (fun a hF => ?_)
    refine n_no hF (b := false) rfl rfl rfl (fun a hF => ?_)
    refine n_no hF (b := false) rfl rfl rfl (fun a hF => ?_)
    refine n_q hF hS (q_pick (b := false) rfl rfl) rfl (fun a hF => ?_)
    refine n_q hF hS (q_fieldAddr fl67_1 (by decide) rfl) rfl (fun a hF => ?_)
    refine n_q hF hS (q_load ty3 rfl (i := 0) rfl rfl rfl rfl) rfl (fun a hF => ?_)
    refine n_q hF hS (q_eqI rfl rfl) rfl (fun a hF => ?_)
    refine n_q hF hS (q_move rfl) rfl (fun a hF => ?_)
    refine spd hF (s := 30) rfl (fun hc30 hF => ?_) (fun hc30 hF => ?_)
    · refine n_yes hF rfl ?_
      refine n_q hF hS (q_fieldAddr fl67_2 (by decide) rfl) rfl (fun a hF => ?_)
      refine n_yes hF rfl ?_
      refine n_q hF hS (q_load ty9 rfl (i := 0) rfl rfl rfl rfl) rfl (fun a hF => ?_)
      refine n_yes hF rfl ?_
      refine n_q hF hS (q_eqStr rfl rfl) rfl (fun a hF => ?_)
      refine n_q hF hS (q_pick (b := true) rfl rfl) rfl (fun a hF => ?_)
      refine n_q hF hS (q_buildA (cs := [_, _, _, _]) Tryd.underlying186 ty4 zr186 rfl (by first | rfl | simp [bldA, spl, dc_length, List.length_replicate, List.length_cons, List.length_nil, List.length_append])) rfl (fun a hF => ?_)
      refine n_l rfl (fun K18 hK18 => l_alloc hF hS zr186 rfl (fun a w b4 hF hS => hK18 _ _ ?_))
      refine n_l rfl (fun K19 hK19 => l_store0A ty186 hF hS rfl rfl (i := 0) rfl rfl rfl rfl (fun a w hF hS => hK19 _ _ ?_))
      refine hK3 _ _ ?_
      refine c_seq (fun K20 hK20 => ?_)
      refine c_seq (fun K21 hK21 => ?_)
      refine c_reg ?_
      refine n_q hF hS (q_fieldAddr fl67_0 (by decide) rfl) rfl (fun a hF => ?_)
      refine n_q hF hS (q_load ty3 rfl (i := 1) rfl rfl rfl rfl) rfl (fun a hF => ?_)
      refine n_q hF hS (q_lss rfl rfl) rfl (fun a hF => ?_)
      refine n_q hF hS (q_move rfl) rfl (fun a hF => ?_)
      refine spF hF (s := 39) rfl (by decide) (fun hF => ?_)
      refine n_yes hF rfl ?_
      refine n_q hF hS (q_fieldAddr fl67_0 (by decide) rfl) rfl (fun a hF => ?_)
      refine n_yes hF rfl ?_
      refine n_q hF hS (q_load ty3 rfl (i := 1) rfl rfl rfl rfl) rfl (fun a hF => ?_)
      refine n_yes hF rfl ?_
      refine n_q hF hS (q_gtr rfl rfl) rfl (fun a hF => ?_)
      refine n_q hF hS (q_pick (b := false) rfl rfl) rfl (fun a hF => ?_)
      refine n_q hF hS (q_move rfl) rfl (fun a hF => ?_)
      refine spF hF (s := 44) rfl (by decide) (fun hF => ?_)
      refine n_yes hF rfl ?_
      refine n_q hF hS (q_fieldAddr fl67_0 (by decide) rfl) rfl (fun a hF => ?_)
      refine n_yes hF rfl ?_
      refine n_q hF hS (q_load ty3 rfl (i := 1) rfl rfl rfl rfl) rfl (fun a hF => ?_)
      refine n_yes hF rfl ?_
      refine n_q hF hS (q_indexAddrAj (j := 1) Tryd.underlying186 ty4 rfl rfl (by decide) (by decide)) rfl (fun a hF => ?_)
      refine n_yes hF rfl ?_
      refine n_q hF hS (q_load ty4 rfl (i := 0) rfl rfl rfl rfl) rfl (fun a hF => ?_)
      refine n_yes hF rfl ?_
      refine n_q hF hS (q_not rfl) rfl (fun a hF => ?_)
      refine n_q hF hS (q_pick (b := false) rfl rfl) rfl (fun a hF => ?_)
      refine hK21 _ _ ?_
      refine rw_ hF (s := 50) (u := .bool false) rfl (by simp) (fun hF => ?_)
      refine c_false hF rfl ?_
      refine wp_skip ?_
      refine hK20 _ _ ?_
      refine c_seq (fun K22 hK22 => ?_)
      refine c_seq (fun K23 hK23 => ?_)
      refine c_reg ?_
      refine n_q hF hS (q_fieldAddr fl67_0 (by decide) rfl) rfl (fun a hF => ?_)
      refine n_q hF hS (q_load ty3 rfl (i := 1) rfl rfl rfl rfl) rfl (fun a hF => ?_)
      refine n_q hF hS (q_lss rfl rfl) rfl (fun a hF => ?_)
      refine hK23 _ _ ?_
      refine spT hF (s := 53) rfl (by decide) (fun hF => ?_)
      refine c_true hF rfl ?_
      refine c_seq (fun K24 hK24 => ?_)
      refine c_reg ?_
      refine n_q hF hS (q_assign rfl) rfl (fun a hF => ?_)
      refine n_q hF hS (q_assign rfl) rfl (fun a hF => ?_)
      refine hK24 _ _ ?_
      refine c_ret ?_
      repeat (first | refine ret_then ?_ | refine ret_blk ?_)
      refine c_ret' (P := Tryd.prog) (fn := Tryd.f93) rfl hF hS (.tmp rfl (.tmp rfl .nil)) ⟨_, rfl, ?_⟩
      refine ⟨?_, hS.same⟩
      rfl
    · refine n_no hF (b := false) rfl rfl rfl (fun a hF => ?_)
      refine n_no hF (b := false) rfl rfl rfl (fun a hF => ?_)
      refine n_no hF (b := false) rfl rfl rfl (fun a hF => ?_)
      refine n_q hF hS (q_pick (b := false) rfl rfl) rfl (fun a hF => ?_)
      refine n_q hF hS (q_buildA (cs := [_, _, _, _]) Tryd.underlying186 ty4 zr186 rfl (by first | rfl | simp [bldA, spl, dc_length, List.length_replicate, List.length_cons, List.length_nil, List.length_append])) rfl (fun a hF => ?_)
      refine n_l rfl (fun K25 hK25 => l_alloc hF hS zr186 rfl (fun a w b5 hF hS => hK25 _ _ ?_))
      refine n_l rfl (fun K26 hK26 => l_store0A ty186 hF hS rfl rfl (i := 0) rfl rfl rfl rfl (fun a w hF hS => hK26 _ _ ?_))
      refine hK3 _ _ ?_
      refine c_seq (fun K27 hK27 => ?_)
      refine c_seq (fun K28 hK28 => ?_)
      refine c_reg ?_
      refine n_q hF hS (q_fieldAddr fl67_0 (by decide) rfl) rfl (fun a hF => ?_)
      refine n_q hF hS (q_load ty3 rfl (i := 1) rfl rfl rfl rfl) rfl (fun a hF => ?_)
      refine n_q hF hS (q_lss rfl rfl) rfl (fun a hF => ?_)
      refine n_q hF hS (q_move rfl) rfl (fun a hF => ?_)
      refine spF hF (s := 39) rfl (by decide) (fun hF => ?_)
      refine n_yes hF rfl ?_
      refine n_q hF hS (q_fieldAddr fl67_0 (by decide) rfl) rfl (fun a hF => ?_)
      refine n_yes hF rfl ?_
      refine n_q hF hS (q_load ty3 rfl (i := 1) rfl rfl rfl rfl) rfl (fun a hF => ?_)
      refine n_yes hF rfl ?_
      refine n_q hF hS (q_gtr rfl rfl) rfl (fun a hF => ?_)
      refine n_q hF hS (q_pick (b := false) rfl rfl) rfl (fun a hF => ?_)
      refine n_q hF hS (q_move rfl) rfl (fun a hF => ?_)
      refine spF hF (s := 44) rfl (by decide) (fun hF => ?_)
      refine n_yes hF rfl ?_
      refine n_q hF hS (q_fieldAddr fl67_0 (by decide) rfl) rfl (fun a hF => ?_)
      refine n_yes hF rfl ?_
      refine n_q hF hS (q_load ty3 rfl (i := 1) rfl rfl rfl rfl) rfl (fun a hF => ?_)
      refine n_yes hF rfl ?_
      refine n_q hF hS (q_indexAddrAj (j := 1) Tryd.underlying186 ty4 rfl rfl (by decide) (by decide)) rfl (fun a hF => ?_)
      refine n_yes hF rfl ?_
      refine n_q hF hS (q_load ty4 rfl (i := 0) rfl rfl rfl rfl) rfl (fun a hF => ?_)
      refine n_yes hF rfl ?_
      refine n_q hF hS (q_not rfl) rfl (fun a hF => ?_)
      refine n_q hF hS (q_pick (b := false) rfl rfl) rfl (fun a hF => ?_)
      refine hK28 _ _ ?_
      refine rw_ hF (s := 50) (u := .bool false) rfl (by simp) (fun hF => ?_)
      refine c_false hF rfl ?_
      refine wp_skip ?_
      refine hK27 _ _ ?_
      refine c_seq (fun K29 hK29 => ?_)
      refine c_seq (fun K30 hK30 => ?_)
      refine c_reg ?_
      refine n_q hF hS (q_fieldAddr fl67_0 (by decide) rfl) rfl (fun a hF => ?_)
      refine n_q hF hS (q_load ty3 rfl (i := 1) rfl rfl rfl rfl) rfl (fun a hF => ?_)
      refine n_q hF hS (q_lss rfl rfl) rfl (fun a hF => ?_)
      refine hK30 _ _ ?_
      refine spT hF (s := 53) rfl (by decide) (fun hF => ?_)
      refine c_true hF rfl ?_
      refine c_seq (fun K31 hK31 => ?_)
      refine c_reg ?_
      refine n_q hF hS (q_assign rfl) rfl (fun a hF => ?_)
      refine n_q hF hS (q_assign rfl) rfl (fun a hF => ?_)
      refine hK31 _ _ ?_
      refine c_ret ?_
      repeat (first | refine ret_then ?_ | refine ret_blk ?_)
      refine c_ret' (P := Tryd.prog) (fn := Tryd.f93) rfl hF hS (.tmp rfl (.tmp rfl .nil)) ⟨_, rfl, ?_⟩
      refine ⟨?_, hS.same⟩
      rfl

theorem formedT_c (s : ByteArray) (w : World) (H : Froz) (hz : Fz H w) : CallsR Tryd.prog 93 [.agg #[.int .i64 2, .int .i64 0, .string s, .slice none 0 0]] w fun v w' => v = .tuple #[.int .i64 0, .bool true] ∧ St ⟨w, H, []⟩ H [] w' := by
  refine calls_start Tryd.func93 rfl Tryd.ntmps93 rfl (fun a hF => ?_)
  have hS := St.start w H hz
  refine c_seq (fun K1 hK1 => ?_)
  refine c_reg ?_
  refine n_l rfl (fun K2 hK2 => l_boxA hF hS rfl rfl (fun a w b1 hF hS => hK2 _ _ ?_))
  refine n_q hF hS (q_assign rfl) rfl (fun a hF => ?_)
  refine n_q hF hS (q_assign rfl) rfl (fun a hF => ?_)
  refine hK1 _ _ ?_
  refine c_seq (fun K3 hK3 => ?_)
  refine c_reg ?_
  refine n_q hF hS (q_fieldAddr fl67_2 (by decide) rfl) rfl (fun a hF => ?_)
  refine n_q hF hS (q_load ty9 rfl (i := 0) rfl rfl rfl rfl) rfl (fun a hF => ?_)
  refine n_q hF hS (q_eqStr rfl rfl) rfl (fun a hF => ?_)
  refine n_q hF hS (q_move rfl) rfl (fun a hF => ?_)
  refine sp hF (s := 12) rfl (fun hc12 hF => ?_) (fun hc12 hF => ?_)
  · refine n_yes hF rfl ?_
    refine n_q hF hS (q_fieldAddr fl67_3 (by decide) rfl) rfl (fun a hF => ?_)
    refine n_yes hF rfl ?_
    refine n_q hF hS (q_load ty65 rfl (i := 0) rfl rfl rfl rfl) rfl (fun a hF => ?_)
    refine n_yes hF rfl ?_
    refine n_q hF hS (q_len Tryd.underlying65 rfl rfl) rfl (fun a hF => ?_)
    refine n_yes hF rfl ?_
    refine n_q hF hS (q_eqI rfl rfl) rfl (fun a hF => ?_)
    refine n_q hF hS (q_pick (b := true) rfl rfl) rfl (fun a hF => ?_)
    refine n_q hF hS (q_fieldAddr fl67_1 (by decide) rfl) rfl (fun a hF => ?_)
    refine n_q hF hS (q_load ty3 rfl (i := 0) rfl rfl rfl rfl) rfl (fun a hF => ?_)
    refine n_q hF hS (q_eqI rfl rfl) rfl (fun a hF => ?_)
    refine n_q hF hS (q_move rfl) rfl (fun a hF => ?_)
    refine spT hF (s := 21) rfl (by decide) (fun hF => ?_)
    refine n_yes hF rfl ?_
    refine n_q hF hS (q_fieldAddr fl67_3 (by decide) rfl) rfl (fun a hF => ?_)
    refine n_yes hF rfl ?_
    refine n_q hF hS (q_load ty65 rfl (i := 0) rfl rfl rfl rfl) rfl (fun a hF => ?_)
    refine n_yes hF rfl ?_
    refine n_q hF hS (q_len Tryd.underlying65 rfl rfl) rfl (fun a hF => ?_)
    refine n_yes hF rfl ?_
    refine n_q hF hS (q_eqI rfl rfl) rfl (fun a hF => ?_)
    refine n_q hF hS (q_pick (b := true) rfl rfl) rfl (fun a hF => ?_)
    refine n_q hF hS (q_fieldAddr fl67_1 (by decide) rfl) rfl (fun a hF => ?_)
    refine n_q hF hS (q_load ty3 rfl (i := 0) rfl rfl rfl rfl) rfl (fun a hF => ?_)
    refine n_q hF hS (q_eqI rfl rfl) rfl (fun a hF => ?_)
    refine n_q hF hS (q_move rfl) rfl (fun a hF => ?_)
    refine spT hF (s := 30) rfl (by decide) (fun hF => ?_)
    refine n_yes hF rfl ?_
    refine n_q hF hS (q_fieldAddr fl67_2 (by decide) rfl) rfl (fun a hF => ?_)
    refine n_yes hF rfl ?_
    refine n_q hF hS (q_load ty9 rfl (i := 0) rfl rfl rfl rfl) rfl (fun a hF => ?_)
    refine n_yes hF rfl ?_
    refine n_q hF hS (q_eqStr rfl rfl) rfl (fun a hF => ?_)
    refine n_q hF hS (q_pick (b := true) rfl rfl) rfl (fun a hF => ?_)
    refine n_q hF hS (q_buildA (cs := [_, _, _, _]) Tryd.underlying186 ty4 zr186 rfl (by first | rfl | simp [bldA, spl, dc_length, List.length_replicate, List.length_cons, List.length_nil, List.length_append])) rfl (fun a hF => ?_)
    refine n_l rfl (fun K4 hK4 => l_alloc hF hS zr186 rfl (fun a w b2 hF hS => hK4 _ _ ?_))
    refine n_l rfl (fun K5 hK5 => l_store0A ty186 hF hS rfl rfl (i := 0) rfl rfl rfl rfl (fun a w hF hS => hK5 _ _ ?_))
    refine hK3 _ _ ?_
    refine c_seq (fun K6 hK6 => ?_)
    refine c_seq (fun K7 hK7 => ?_)
    refine c_reg ?_
    refine n_q hF hS (q_fieldAddr fl67_0 (by decide) rfl) rfl (fun a hF => ?_)
    refine n_q hF hS (q_load ty3 rfl (i := 1) rfl rfl rfl rfl) rfl (fun a hF => ?_)
    refine n_q hF hS (q_lss rfl rfl) rfl (fun a hF => ?_)
    refine n_q hF hS (q_move rfl) rfl (fun a hF => ?_)
    refine spF hF (s := 39) rfl (by decide) (fun hF => ?_)
    refine n_yes hF rfl ?_
    refine n_q hF hS (q_fieldAddr fl67_0 (by decide) rfl) rfl (fun a hF => ?_)
    refine n_yes hF rfl ?_
    refine n_q hF hS (q_load ty3 rfl (i := 1) rfl rfl rfl rfl) rfl (fun a hF => ?_)
    refine n_yes hF rfl ?_
    refine n_q hF hS (q_gtr rfl rfl) rfl (fun a hF => ?_)
    refine n_q hF hS (q_pick (b := false) rfl rfl) rfl (fun a hF => ?_)
    refine n_q hF hS (q_move rfl) rfl (fun a hF => ?_)
    refine spF hF (s := 44) rfl (by decide) (fun hF => ?_)
    refine n_yes hF rfl ?_
    refine n_q hF hS (q_fieldAddr fl67_0 (by decide) rfl) rfl (fun a hF => ?_)
    refine n_yes hF rfl ?_
    refine n_q hF hS (q_load ty3 rfl (i := 1) rfl rfl rfl rfl) rfl (fun a hF => ?_)
    refine n_yes hF rfl ?_
    refine n_q hF hS (q_indexAddrAj (j := 2) Tryd.underlying186 ty4 rfl rfl (by decide) (by decide)) rfl (fun a hF => ?_)
    refine n_yes hF rfl ?_
    refine n_q hF hS (q_load ty4 rfl (i := 0) rfl rfl rfl rfl) rfl (fun a hF => ?_)
    refine n_yes hF rfl ?_
    refine n_q hF hS (q_not rfl) rfl (fun a hF => ?_)
    refine n_q hF hS (q_pick (b := false) rfl rfl) rfl (fun a hF => ?_)
    refine hK7 _ _ ?_
    refine rw_ hF (s := 50) (u := .bool false) rfl (by simp) (fun hF => ?_)
    refine c_false hF rfl ?_
    refine wp_skip ?_
    refine hK6 _ _ ?_
    refine c_seq (fun K8 hK8 => ?_)
    refine c_seq (fun K9 hK9 => ?_)
    refine c_reg ?_
    refine n_q hF hS (q_fieldAddr fl67_0 (by decide) rfl) rfl (fun a hF => ?_)
    refine n_q hF hS (q_load ty3 rfl (i := 1) rfl rfl rfl rfl) rfl (fun a hF => ?_)
    refine n_q hF hS (q_lss rfl rfl) rfl (fun a hF => ?_)
    refine hK9 _ _ ?_
    refine spT hF (s := 53) rfl (by decide) (fun hF => ?_)
    refine c_true hF rfl ?_
    refine c_seq (fun K10 hK10 => ?_)
    refine c_reg ?_
    refine n_q hF hS (q_assign rfl) rfl (fun a hF => ?_)
    refine n_q hF hS (q_assign rfl) rfl (fun a hF => ?_)
    refine hK10 _ _ ?_
    refine c_ret ?_
    repeat (first | refine ret_then ?_ | refine ret_blk ?_)
    refine c_ret' (P := Tryd.prog) (fn := Tryd.f93) rfl hF hS (.tmp rfl (.tmp rfl .nil)) ⟨_, rfl, ?_⟩
    refine ⟨?_, hS.same⟩
    rfl
  · refine n_no hF (b := false) rfl rfl rfl (fun a hF => ?_)
    refine n_no hF (b := false) rfl rfl rfl (fun a hF => ?_)
    refine n_no hF (b := false) rfl rfl rfl (fun a hF => ?_)
    refine n_no hF (b := false) rfl rfl rfl (fun a hF => ?_)
    refine n_q hF hS (q_pick (b := false) rfl rfl) rfl (fun a hF => ?_)
    refine n_q hF hS (q_fieldAddr fl67_1 (by decide) rfl) rfl (fun a hF => ?_)
    refine n_q hF hS (q_load ty3 rfl (i := 0) rfl rfl rfl rfl) rfl (fun a hF => ?_)
    refine n_q hF hS (q_eqI rfl rfl) rfl (fun a hF => ?_)
    refine n_q hF hS (q_move rfl) rfl (fun a hF => ?_)
    refine spT hF (s := 21) rfl (by decide) (fun hF => ?_)
    refine n_yes hF rfl ?_
    refine n_q hF hS (q_fieldAddr fl67_3 (by decide) rfl) rfl (fun a hF => ?_)
    refine n_yes hF rfl ?_
    refine n_q hF hS (q_load ty65 rfl (i := 0) rfl rfl rfl rfl) rfl (fun a hF => ?_)
    refine n_yes hF rfl ?_
    refine n_q hF hS (q_len Tryd.underlying65 rfl rfl) rfl (fun a hF => ?_)
    refine n_yes hF rfl ?_
    refine n_q hF hS (q_eqI rfl rfl) rfl (fun a hF => ?_)
    refine n_q hF hS (q_pick (b := true) rfl rfl) rfl (fun a hF => ?_)
    refine n_q hF hS (q_fieldAddr fl67_1 (by decide) rfl) rfl (fun a hF => ?_)
    refine n_q hF hS (q_load ty3 rfl (i := 0) rfl rfl rfl rfl) rfl (fun a hF => ?_)
    refine n_q hF hS (q_eqI rfl rfl) rfl (fun a hF => ?_)
    refine n_q hF hS (q_move rfl) rfl (fun a hF => ?_)
    refine spT hF (s := 30) rfl (by decide) (fun hF => ?_)
    refine n_yes hF rfl ?_
    refine n_q hF hS (q_fieldAddr fl67_2 (by decide) rfl) rfl (fun a hF => ?_)
    refine n_yes hF rfl ?_
    refine n_q hF hS (q_load ty9 rfl (i := 0) rfl rfl rfl rfl) rfl (fun a hF => ?_)
    refine n_yes hF rfl ?_
    refine n_q hF hS (q_eqStr rfl rfl) rfl (fun a hF => ?_)
    refine n_q hF hS (q_pick (b := true) rfl rfl) rfl (fun a hF => ?_)
    refine n_q hF hS (q_buildA (cs := [_, _, _, _]) Tryd.underlying186 ty4 zr186 rfl (by first | rfl | simp [bldA, spl, dc_length, List.length_replicate, List.length_cons, List.length_nil, List.length_append])) rfl (fun a hF => ?_)
    refine n_l rfl (fun K11 hK11 => l_alloc hF hS zr186 rfl (fun a w b3 hF hS => hK11 _ _ ?_))
    refine n_l rfl (fun K12 hK12 => l_store0A ty186 hF hS rfl rfl (i := 0) rfl rfl rfl rfl (fun a w hF hS => hK12 _ _ ?_))
    refine hK3 _ _ ?_
    refine c_seq (fun K13 hK13 => ?_)
    refine c_seq (fun K14 hK14 => ?_)
    refine c_reg ?_
    refine n_q hF hS (q_fieldAddr fl67_0 (by decide) rfl) rfl (fun a hF => ?_)
    refine n_q hF hS (q_load ty3 rfl (i := 1) rfl rfl rfl rfl) rfl (fun a hF => ?_)
    refine n_q hF hS (q_lss rfl rfl) rfl (fun a hF => ?_)
    refine n_q hF hS (q_move rfl) rfl (fun a hF => ?_)
    refine spF hF (s := 39) rfl (by decide) (fun hF => ?_)
    refine n_yes hF rfl ?_
    refine n_q hF hS (q_fieldAddr fl67_0 (by decide) rfl) rfl (fun a hF => ?_)
    refine n_yes hF rfl ?_
    refine n_q hF hS (q_load ty3 rfl (i := 1) rfl rfl rfl rfl) rfl (fun a hF => ?_)
    refine n_yes hF rfl ?_
    refine n_q hF hS (q_gtr rfl rfl) rfl (fun a hF => ?_)
    refine n_q hF hS (q_pick (b := false) rfl rfl) rfl (fun a hF => ?_)
    refine n_q hF hS (q_move rfl) rfl (fun a hF => ?_)
    refine spF hF (s := 44) rfl (by decide) (fun hF => ?_)
    refine n_yes hF rfl ?_
    refine n_q hF hS (q_fieldAddr fl67_0 (by decide) rfl) rfl (fun a hF => ?_)
    refine n_yes hF rfl ?_
    refine n_q hF hS (q_load ty3 rfl (i := 1) rfl rfl rfl rfl) rfl (fun a hF => ?_)
    refine n_yes hF rfl ?_
    refine n_q hF hS (q_indexAddrAj (j := 2) Tryd.underlying186 ty4 rfl rfl (by decide) (by decide)) rfl (fun a hF => ?_)
    refine n_yes hF rfl ?_
    refine n_q hF hS (q_load ty4 rfl (i := 0) rfl rfl rfl rfl) rfl (fun a hF => ?_)
    refine n_yes hF rfl ?_
    refine n_q hF hS (q_not rfl) rfl (fun a hF => ?_)
    refine n_q hF hS (q_pick (b := false) rfl rfl) rfl (fun a hF => ?_)
    refine hK14 _ _ ?_
    refine rw_ hF (s := 50) (u := .bool false) rfl (by simp) (fun hF => ?_)
    refine c_false hF rfl ?_
    refine wp_skip ?_
    refine hK13 _ _ ?_
    refine c_seq (fun K15 hK15 => ?_)
    refine c_seq (fun K16 hK16 => ?_)
    refine c_reg ?_
    refine n_q hF hS (q_fieldAddr fl67_0 (by decide) rfl) rfl (fun a hF => ?_)
    refine n_q hF hS (q_load ty3 rfl (i := 1) rfl rfl rfl rfl) rfl (fun a hF => ?_)
    refine n_q hF hS (q_lss rfl rfl) rfl (fun a hF => ?_)
    refine hK16 _ _ ?_
    refine spT hF (s := 53) rfl (by decide) (fun hF => ?_)
    refine c_true hF rfl ?_
    refine c_seq (fun K17 hK17 => ?_)
    refine c_reg ?_
    refine n_q hF hS (q_assign rfl) rfl (fun a hF => ?_)
    refine n_q hF hS (q_assign rfl) rfl (fun a hF => ?_)
    refine hK17 _ _ ?_
    refine c_ret ?_
    repeat (first | refine ret_then ?_ | refine ret_blk ?_)
    refine c_ret' (P := Tryd.prog) (fn := Tryd.f93) rfl hF hS (.tmp rfl (.tmp rfl .nil)) ⟨_, rfl, ?_⟩
    refine ⟨?_, hS.same⟩
    rfl

theorem formedLf_c (lf : Lf) (w : World) (H : Froz) (hz : Fz H w) : CallsR Tryd.prog 93 [.agg lf.c.toArray] w fun v w' => v = .tuple #[.int .i64 0, .bool true] ∧ St ⟨w, H, []⟩ H [] w' := by
  cases lf with
  | i n => exact formedI_c n w H hz
  | t s => exact formedT_c s w H hz



theorem formedL_c (ls : List Lf) (al : Option Addr) (cl : Nat) (h0 : 0 < ls.length) (hln : ls.length ≤ 8) (w : World) (H : Froz) (hz : Fz H w) (hr : RdL H al 4 (lfE ls)) : CallsR Tryd.prog 93 [.agg #[.int .i64 3, .int .i64 0, .string ⟨#[]⟩, .slice al ls.length cl]] w fun v w' => v = .tuple #[.int .i64 1, .bool true] ∧ St ⟨w, H, []⟩ H [] w' := by
  refine calls_start Tryd.func93 rfl Tryd.ntmps93 rfl (fun a hF => ?_)
  have hS := St.start w H hz
  refine c_seq (fun K1 hK1 => ?_)
  refine c_reg ?_
  refine n_l rfl (fun K2 hK2 => l_boxA hF hS rfl rfl (fun a w b1 hF hS => hK2 _ _ ?_))
  refine n_q hF hS (q_assign rfl) rfl (fun a hF => ?_)
  refine n_q hF hS (q_assign rfl) rfl (fun a hF => ?_)
  refine hK1 _ _ ?_
  refine c_seq (fun K3 hK3 => ?_)
  refine c_reg ?_
  refine n_q hF hS (q_fieldAddr fl67_2 (by decide) rfl) rfl (fun a hF => ?_)
  refine n_q hF hS (q_load ty9 rfl (i := 0) rfl rfl rfl rfl) rfl (fun a hF => ?_)
  refine n_q hF hS (q_eqStr rfl rfl) rfl (fun a hF => ?_)
  refine n_q hF hS (q_move rfl) rfl (fun a hF => ?_)
  refine rw_ hF (s := 12) (u := .bool true) rfl (by simp) (fun hF => ?_)
  refine n_yes hF rfl ?_
  refine n_q hF hS (q_fieldAddr fl67_3 (by decide) rfl) rfl (fun a hF => ?_)
  refine n_yes hF rfl ?_
  refine n_q hF hS (q_load ty65 rfl (i := 0) rfl rfl rfl rfl) rfl (fun a hF => ?_)
  refine n_yes hF rfl ?_
  refine n_q hF hS (q_len Tryd.underlying65 rfl rfl) rfl (fun a hF => ?_)
  refine n_yes hF rfl ?_
  refine n_q hF hS (q_eqI rfl rfl) rfl (fun a hF => ?_)
  refine n_q hF hS (q_pick (b := true) rfl rfl) rfl (fun a hF => ?_)
  refine n_q hF hS (q_fieldAddr fl67_1 (by decide) rfl) rfl (fun a hF => ?_)
  refine n_q hF hS (q_load ty3 rfl (i := 0) rfl rfl rfl rfl) rfl (fun a hF => ?_)
  refine n_q hF hS (q_eqI rfl rfl) rfl (fun a hF => ?_)
  refine n_q hF hS (q_move rfl) rfl (fun a hF => ?_)
  refine spT hF (s := 21) rfl (by decide) (fun hF => ?_)
  refine n_yes hF rfl ?_
  refine n_q hF hS (q_fieldAddr fl67_3 (by decide) rfl) rfl (fun a hF => ?_)
  refine n_yes hF rfl ?_
  refine n_q hF hS (q_load ty65 rfl (i := 0) rfl rfl rfl rfl) rfl (fun a hF => ?_)
  refine n_yes hF rfl ?_
  refine n_q hF hS (q_len Tryd.underlying65 rfl rfl) rfl (fun a hF => ?_)
  refine n_yes hF rfl ?_
  refine n_q hF hS (q_eqI rfl rfl) rfl (fun a hF => ?_)
  refine n_q hF hS (q_pick (b := true) rfl rfl) rfl (fun a hF => ?_)
  refine n_q hF hS (q_fieldAddr fl67_1 (by decide) rfl) rfl (fun a hF => ?_)
  refine n_q hF hS (q_load ty3 rfl (i := 0) rfl rfl rfl rfl) rfl (fun a hF => ?_)
  refine n_q hF hS (q_eqI rfl rfl) rfl (fun a hF => ?_)
  refine n_q hF hS (q_move rfl) rfl (fun a hF => ?_)
  refine spT hF (s := 30) rfl (by decide) (fun hF => ?_)
  refine n_yes hF rfl ?_
  refine n_q hF hS (q_fieldAddr fl67_2 (by decide) rfl) rfl (fun a hF => ?_)
  refine n_yes hF rfl ?_
  refine n_q hF hS (q_load ty9 rfl (i := 0) rfl rfl rfl rfl) rfl (fun a hF => ?_)
  refine n_yes hF rfl ?_
  refine n_q hF hS (q_eqStr rfl rfl) rfl (fun a hF => ?_)
  refine n_q hF hS (q_pick (b := true) rfl rfl) rfl (fun a hF => ?_)
  refine n_q hF hS (q_buildA (cs := [_, _, _, _]) Tryd.underlying186 ty4 zr186 rfl (by first | rfl | simp [bldA, spl, dc_length, List.length_replicate, List.length_cons, List.length_nil, List.length_append])) rfl (fun a hF => ?_)
  refine n_l rfl (fun K4 hK4 => l_alloc hF hS zr186 rfl (fun a w b2 hF hS => hK4 _ _ ?_))
  refine n_l rfl (fun K5 hK5 => l_store0A ty186 hF hS rfl rfl (i := 0) rfl rfl rfl rfl (fun a w hF hS => hK5 _ _ ?_))
  refine hK3 _ _ ?_
  refine c_seq (fun K6 hK6 => ?_)
  refine c_seq (fun K7 hK7 => ?_)
  refine c_reg ?_
  refine n_q hF hS (q_fieldAddr fl67_0 (by decide) rfl) rfl (fun a hF => ?_)
  refine n_q hF hS (q_load ty3 rfl (i := 1) rfl rfl rfl rfl) rfl (fun a hF => ?_)
  refine n_q hF hS (q_lss rfl rfl) rfl (fun a hF => ?_)
  refine n_q hF hS (q_move rfl) rfl (fun a hF => ?_)
  refine spF hF (s := 39) rfl (by decide) (fun hF => ?_)
  refine n_yes hF rfl ?_
  refine n_q hF hS (q_fieldAddr fl67_0 (by decide) rfl) rfl (fun a hF => ?_)
  refine n_yes hF rfl ?_
  refine n_q hF hS (q_load ty3 rfl (i := 1) rfl rfl rfl rfl) rfl (fun a hF => ?_)
  refine n_yes hF rfl ?_
  refine n_q hF hS (q_gtr rfl rfl) rfl (fun a hF => ?_)
  refine n_q hF hS (q_pick (b := false) rfl rfl) rfl (fun a hF => ?_)
  refine n_q hF hS (q_move rfl) rfl (fun a hF => ?_)
  refine spF hF (s := 44) rfl (by decide) (fun hF => ?_)
  refine n_yes hF rfl ?_
  refine n_q hF hS (q_fieldAddr fl67_0 (by decide) rfl) rfl (fun a hF => ?_)
  refine n_yes hF rfl ?_
  refine n_q hF hS (q_load ty3 rfl (i := 1) rfl rfl rfl rfl) rfl (fun a hF => ?_)
  refine n_yes hF rfl ?_
  refine n_q hF hS (q_indexAddrAj (j := 3) Tryd.underlying186 ty4 rfl rfl (by decide) (by decide)) rfl (fun a hF => ?_)
  refine n_yes hF rfl ?_
  refine n_q hF hS (q_load ty4 rfl (i := 0) rfl rfl rfl rfl) rfl (fun a hF => ?_)
  refine n_yes hF rfl ?_
  refine n_q hF hS (q_not rfl) rfl (fun a hF => ?_)
  refine n_q hF hS (q_pick (b := false) rfl rfl) rfl (fun a hF => ?_)
  refine hK7 _ _ ?_
  refine rw_ hF (s := 50) (u := .bool false) rfl (by simp) (fun hF => ?_)
  refine c_false hF rfl ?_
  refine wp_skip ?_
  refine hK6 _ _ ?_
  refine c_seq (fun K8 hK8 => ?_)
  refine c_seq (fun K9 hK9 => ?_)
  refine c_reg ?_
  refine n_q hF hS (q_fieldAddr fl67_0 (by decide) rfl) rfl (fun a hF => ?_)
  refine n_q hF hS (q_load ty3 rfl (i := 1) rfl rfl rfl rfl) rfl (fun a hF => ?_)
  refine n_q hF hS (q_lss rfl rfl) rfl (fun a hF => ?_)
  refine hK9 _ _ ?_
  refine spF hF (s := 53) rfl (by decide) (fun hF => ?_)
  refine c_false hF rfl ?_
  refine wp_skip ?_
  refine hK8 _ _ ?_
  refine c_seq (fun K10 hK10 => ?_)
  refine c_seq (fun K11 hK11 => ?_)
  refine c_reg ?_
  refine n_q hF hS (q_fieldAddr fl67_3 (by decide) rfl) rfl (fun a hF => ?_)
  refine n_q hF hS (q_load ty65 rfl (i := 1) rfl rfl rfl rfl) rfl (fun a hF => ?_)
  refine n_q hF hS (q_len Tryd.underlying65 rfl rfl) rfl (fun a hF => ?_)
  refine n_q hF hS (q_move rfl) rfl (fun a hF => ?_)
  refine hK11 _ _ ?_
  refine c_block ?_
  obtain ⟨FA, hFA⟩ : ∃ FA, St _ _ [⟨b2, FA, 186⟩, ⟨b1, [.int .i64 3, .int .i64 0, .string ⟨#[]⟩, .slice al ls.length cl], 67⟩] _ := ⟨_, hS⟩
  clear hS
  have hS := hFA
  clear hFA
  refine c_loopL hF [2, 3, 6, 7, 8, 57, 58, 59, 60, 61, 62, 63, 64, 65, 66, 67, 68, 69, 70, 71]
    (fun j : Nat => [(2, .int .i64 0), (57, .int .i64 (j : Int))])
    (fun _ => [⟨b2, FA, 186⟩, ⟨b1, [.int .i64 3, .int .i64 0, .string ⟨#[]⟩, .slice al ls.length cl], 67⟩])
    (fun j _ => j ≤ ls.length)
    (fun j => ls.length - j) (0) ⟨rfl, rfl, trivial⟩ (hS) (Nat.zero_le _) ?_
  clear hF hS
  intro j a w H hle hF hS hJ
  replace hr := hr.mono hle
  have hl0 := Le.refl H
  try dsimp only at hF hJ hS
  refine c_seq (fun K12 hK12 => ?_)
  refine c_reg ?_
  refine n_q hF hS (q_lss rfl rfl) rfl (fun a hF => ?_)
  refine hK12 _ _ ?_
  refine c_seq (fun K13 hK13 => ?_)
  refine spd hF (s := 58) rfl (fun hc58 hF => ?_) (fun hc58 hF => ?_)
  · refine c_true hF rfl ?_
    refine wp_skip ?_
    refine hK13 _ _ ?_
    refine c_seq (fun K14 hK14 => ?_)
    refine c_block ?_
    refine c_seq (fun K15 hK15 => ?_)
    refine c_reg ?_
    have hlt : j < ls.length := by omega
    obtain ⟨lf, hlf⟩ : ∃ l, l = ls[j] := ⟨_, rfl⟩
    have hel : (lfE ls)[j]? = some lf.c := by simp [lfE, hlt, hlf]
    refine n_q hF hS (q_indexAddrS Tryd.underlying65 ty67 rfl rfl (by omega) (hr.some (by simp [lfE]; omega))) rfl (fun a hF => ?_)
    refine n_q hF hS (q_loadL0 (v := .agg lf.c.toArray) ty67 rfl hr hel (by decide) rfl (by simp only [ldv, cond_true, List.drop_zero]; rw [List.take_of_length_le (by rw [Lf.c_len]; exact Nat.le_refl _)])) rfl (fun a hF => ?_)
    refine n_l rfl (fun K16 hK16 => l_alloc hF hS zr67 rfl (fun a w b3 hF hS => hK16 _ _ ?_))
    refine n_l rfl (fun K8 hK8 => l_store0A ty67 hF hS rfl rfl (i := 0) rfl (Lf.c_len _) rfl (Lf.c_all1 _) (fun a w hF hS => hK8 _ _ ?_))
    refine hK15 _ _ ?_
    refine c_seq (fun K17 hK17 => ?_)
    refine c_reg ?_
    refine n_q hF hS (q_load0 ty67 rfl (i := 0) rfl (Lf.c_len _) rfl) rfl (fun a hF => ?_)
    refine n_l rfl (fun K18 hK18 => l_call en93 hF rfl rfl (formedLf_c lf _ _ hS.fz) (fun v18 w hR a hF => ?_))
    obtain ⟨rfl, hc⟩ := hR
    replace hS := hS.call0 hc
    refine hK18 _ _ ?_
    refine n_q hF hS (q_move rfl) rfl (fun a hF => ?_)
    refine n_q hF hS (q_extract (i := 0) rfl rfl) rfl (fun a hF => ?_)
    refine n_q hF hS (q_extract (i := 1) rfl rfl) rfl (fun a hF => ?_)
    refine n_q hF hS (q_assign rfl) rfl (fun a hF => ?_)
    refine n_q hF hS (q_assign rfl) rfl (fun a hF => ?_)
    refine hK17 _ _ ?_
    refine c_seq (fun K19 hK19 => ?_)
    refine c_seq (fun K20 hK20 => ?_)
    refine c_reg ?_
    refine n_q hF hS (q_move rfl) rfl (fun a hF => ?_)
    refine n_q hF hS (q_not rfl) rfl (fun a hF => ?_)
    refine hK20 _ _ ?_
    refine rw_ hF (s := 67) (u := .bool false) rfl (by simp) (fun hF => ?_)
    refine c_false hF rfl ?_
    refine wp_skip ?_
    refine hK19 _ _ ?_
    refine c_reg ?_
    refine n_q hF hS (q_move rfl) rfl (fun a hF => ?_)
    refine n_q hF hS (q_move rfl) rfl (fun a hF => ?_)
    refine n_q hF hS (q_max2 rfl rfl) rfl (fun a hF => ?_)
    refine rw_ hF (s := 70) (u := .int .i64 0) rfl (by simp) (fun hF => ?_)
    refine n_q hF hS (q_assign rfl) rfl (fun a hF => ?_)
    refine hK14 _ _ ?_
    refine c_reg ?_
    refine n_q hF hS (q_addI rfl rfl (by omega)) rfl (fun a hF => ?_)
    refine n_q hF hS (q_move rfl) rfl (fun a hF => ?_)
    exact ⟨j + 1, _, (by show ls.length - (j + 1) < ls.length - j; omega), hl0, hF.back ⟨rfl, rfl, trivial⟩ rfl (by repeat first | exact Ext.refl _ _ | refine Ext.rem' rfl ?_ | refine Ext.push rfl ?_), hS.lose (.cons _ (.refl _)), (by omega)⟩
  · refine c_false hF rfl ?_
    refine c_exit ?_
    refine hK10 _ _ ?_
    refine c_seq (fun K21 hK21 => ?_)
    refine c_reg ?_
    refine n_q hF hS (q_move rfl) rfl (fun a hF => ?_)
    refine n_q hF hS (q_addI rfl rfl (by omega)) rfl (fun a hF => ?_)
    refine n_q hF hS (q_assign rfl) rfl (fun a hF => ?_)
    refine n_q hF hS (q_assign rfl) rfl (fun a hF => ?_)
    refine hK21 _ _ ?_
    refine c_ret ?_
    repeat (first | refine ret_then ?_ | refine ret_blk ?_)
    refine c_ret' (P := Tryd.prog) (fn := Tryd.f93) rfl hF hS (.tmp rfl (.tmp rfl .nil)) ⟨_, rfl, ?_⟩
    refine ⟨?_, hS.same⟩
    rfl

theorem cCheck_c (ls : List Lf) (al : Option Addr) (cl : Nat) (h0 : 0 < ls.length) (hln : ls.length ≤ 8) (w : World) (H : Froz) (hz : Fz H w) (hr : RdL H al 4 (lfE ls)) :
    CallsR Tryd.prog 63 [.agg #[.int .i64 3, .int .i64 0, .string ⟨#[]⟩, .slice al ls.length cl]] w fun v w' => v = .int .i64 0 ∧ St ⟨w, H, []⟩ H [] w' := by
  refine calls_start Tryd.func63 rfl Tryd.ntmps63 rfl (fun a hF => ?_)
  have hS := St.start w H hz
  refine c_seq (fun K1 hK1 => ?_)
  refine c_reg ?_
  refine n_l rfl (fun K2 hK2 => l_boxA hF hS rfl rfl (fun a w b1 hF hS => hK2 _ _ ?_))
  refine n_q hF hS (q_assign rfl) rfl (fun a hF => ?_)
  refine hK1 _ _ ?_
  refine c_seq (fun K3 hK3 => ?_)
  refine c_reg ?_
  refine n_q hF hS (q_load0 ty67 rfl (i := 0) rfl rfl rfl) rfl (fun a hF => ?_)
  refine n_l rfl (fun K4 hK4 => l_call en93 hF rfl rfl (formedL_c ls al cl h0 hln _ _ hS.fz hr) (fun v4 w hR a hF => ?_))
  obtain ⟨rfl, hc⟩ := hR
  replace hS := hS.call0 hc
  refine hK4 _ _ ?_
  refine n_q hF hS (q_move rfl) rfl (fun a hF => ?_)
  refine n_q hF hS (q_extract (i := 0) rfl rfl) rfl (fun a hF => ?_)
  refine n_q hF hS (q_extract (i := 1) rfl rfl) rfl (fun a hF => ?_)
  refine n_q hF hS (q_assign rfl) rfl (fun a hF => ?_)
  refine n_q hF hS (q_assign rfl) rfl (fun a hF => ?_)
  refine hK3 _ _ ?_
  refine c_seq (fun K5 hK5 => ?_)
  refine c_block ?_
  refine c_seq (fun K6 hK6 => ?_)
  refine c_reg ?_
  refine n_q hF hS (q_move rfl) rfl (fun a hF => ?_)
  refine n_q hF hS (q_not rfl) rfl (fun a hF => ?_)
  refine n_q hF hS (q_assign rfl) rfl (fun a hF => ?_)
  refine hK6 _ _ ?_
  refine rw_ hF (s := 10) (u := .bool false) rfl (by simp) (fun hF => ?_)
  refine c_false hF rfl ?_
  refine c_seq (fun K7 hK7 => ?_)
  refine c_reg ?_
  refine n_q hF hS (q_move rfl) rfl (fun a hF => ?_)
  refine n_q hF hS (q_gtr rfl rfl) rfl (fun a hF => ?_)
  refine n_q hF hS (q_assign rfl) rfl (fun a hF => ?_)
  refine hK7 _ _ ?_
  refine spF hF (s := 13) rfl (by decide) (fun hF => ?_)
  refine c_false hF rfl ?_
  refine wp_skip ?_
  refine hK5 _ _ ?_
  refine c_seq (fun K8 hK8 => ?_)
  refine c_reg ?_
  refine n_q hF hS (q_assign rfl) rfl (fun a hF => ?_)
  refine hK8 _ _ ?_
  refine c_ret ?_
  repeat (first | refine ret_then ?_ | refine ret_blk ?_)
  refine c_ret' (P := Tryd.prog) (fn := Tryd.f63) rfl hF hS (.tmp rfl .nil) ⟨_, rfl, ?_⟩
  exact ⟨rfl, hS.same⟩

theorem Encode_c (ls : List Lf) (al : Option Addr) (cl : Nat) (h0 : 0 < ls.length) (hln : ls.length ≤ 8) (hlz : ∀ l ∈ ls, l.z ≤ 1000) (w : World) (H : Froz) (hz : Fz H w) (hr : RdL H al 4 (lfE ls)) :
    CallsR Tryd.prog 25 [.agg #[.int .i64 3, .int .i64 0, .string ⟨#[]⟩, .slice al ls.length cl]] w fun v w' => ∃ ad cp Lx, v = .tuple #[.slice ad (encL ls).length cp, .int .i64 0] ∧ OwS 5 1 (.slice ad (encL ls).length cp) (encL ls).length (bc (encL ls)) Lx ∧ St ⟨w, H, []⟩ H Lx w' := by
  refine calls_start Tryd.func25 rfl Tryd.ntmps25 rfl (fun a hF => ?_)
  have hS := St.start w H hz
  refine c_seq (fun K1 hK1 => ?_)
  refine c_reg ?_
  refine n_l rfl (fun K2 hK2 => l_boxA hF hS rfl rfl (fun a w b1 hF hS => hK2 _ _ ?_))
  refine n_q hF hS (q_assign rfl) rfl (fun a hF => ?_)
  refine n_q hF hS (q_assign rfl) rfl (fun a hF => ?_)
  refine hK1 _ _ ?_
  refine c_seq (fun K3 hK3 => ?_)
  refine c_seq (fun K4 hK4 => ?_)
  refine c_reg ?_
  refine n_q hF hS (q_load0 ty67 rfl (i := 0) rfl rfl rfl) rfl (fun a hF => ?_)
  refine n_l rfl (fun K5 hK5 => l_call en63 hF rfl rfl (cCheck_c ls al cl h0 hln _ _ hS.fz hr) (fun v5 w hR a hF => ?_))
  obtain ⟨rfl, hc⟩ := hR
  replace hS := hS.call0 hc
  refine hK5 _ _ ?_
  refine n_q hF hS (q_assign rfl) rfl (fun a hF => ?_)
  refine hK4 _ _ ?_
  refine c_seq (fun K6 hK6 => ?_)
  refine c_reg ?_
  refine n_q hF hS (q_move rfl) rfl (fun a hF => ?_)
  refine n_q hF hS (q_neI rfl rfl) rfl (fun a hF => ?_)
  refine hK6 _ _ ?_
  refine rw_ hF (s := 8) (u := .bool false) rfl (by simp) (fun hF => ?_)
  refine c_false hF rfl ?_
  refine wp_skip ?_
  refine hK3 _ _ ?_
  refine c_seq (fun K7 hK7 => ?_)
  obtain ⟨H_hbx, hH_hbx, hle_hbx, hS_hbx⟩ := hS.freeze' (i := 0) rfl
  replace hS := hS_hbx
  replace hr := hr.mono hle_hbx
  have hbx : HR H_hbx b1 [.int .i64 3, .int .i64 0, .string ⟨#[]⟩, .slice al ls.length cl] := by rw [hH_hbx]; exact frz_hr
  refine r_start (fun _ => []) [] mo hS (fun w hS => ?_)
  refine r_q (i := 1) rfl (by kernel_rfl) (by kernel_rfl) rfl (by kernel_rfl) (fun _ _ _ _ h => h) hF (hS.lose (List.nil_sublist _)) (q_fieldAddr fl67_0 (by decide) rfl) rfl (fun a hF => ?_)
  refine r_q (i := 2) rfl (by kernel_rfl) (by kernel_rfl) rfl (by kernel_rfl) (fun _ _ _ _ h => h) hF (hS.lose (List.nil_sublist _)) (q_loadG (o := 0) (v := .int .i64 3) ty3 rfl hbx.h (Nat.le_of_ble_eq_true rfl) rfl rfl) rfl (fun a hF => ?_)
  refine r_q (i := 7) rfl (by kernel_rfl) (by kernel_rfl) rfl (by kernel_rfl) (fun _ _ _ _ h => h) hF (hS.lose (List.nil_sublist _)) (q_loadG (o := 0) (v := .agg #[.int .i64 3, .int .i64 0, .string ⟨#[]⟩, .slice al ls.length cl]) ty67 rfl hbx.h (Nat.le_of_ble_eq_true rfl) rfl rfl) rfl (fun a hF => ?_)
  refine r_one (i := 0) (by kernel_rfl) ?_
  have hsub := hS.sub
  refine r_li rfl rfl (fun K8 hK8 => l_call en64 hF rfl rfl (newWriter_c _ _ hS.fz) (fun v8 w hR a hF => ?_))
  obtain ⟨bw, bp, H', rfl, hle, hw, hp, hc⟩ := hR
  replace hS : St _ _ ([] ++ []) _ := hS.call hc
  replace hr := hr.mono hle
  replace hbx := hbx.mono hle
  refine hK8 _ _ _ (hS.lose (List.nil_sublist _)) (fun _ h => h.forget hsub hle) ?_
  refine r_q (i := 3) rfl (by kernel_rfl) (by kernel_rfl) rfl (by kernel_rfl) (fun _ _ _ _ h => h) hF (hS.lose (List.nil_sublist _)) (q_nilCheck rfl) rfl (fun a hF => ?_)
  refine r_q (i := 4) rfl (by kernel_rfl) (by kernel_rfl) rfl (by kernel_rfl) (fun _ _ _ _ h => h) hF (hS.lose (List.nil_sublist _)) (q_indexAddrAj (j := 3) Tryd.underlying158 ty124 rfl rfl (by decide) (by decide)) rfl (fun a hF => ?_)
  refine r_q (i := 5) rfl (by kernel_rfl) (by kernel_rfl) rfl (by kernel_rfl) (fun _ _ _ _ h => h) hF (hS.lose (List.nil_sublist _)) (q_fieldAddr fl124_0 (by decide) rfl) rfl (fun a hF => ?_)
  refine r_q (i := 6) rfl (by kernel_rfl) (by kernel_rfl) rfl (by kernel_rfl) (fun _ _ _ _ h => h) hF (hS.lose (List.nil_sublist _)) (q_loadG (o := 3) (v := .func (.func 98) #[] #[.pointer (some ⟨bp, 0, none⟩)]) ty122 rfl hw.h (Nat.le_of_ble_eq_true rfl) rfl rfl) rfl (fun a hF => ?_)
  refine r_one (i := 8) (by kernel_rfl) ?_
  have hsub := hS.sub
  refine r_li rfl rfl (fun K9 hK9 => l_callv (fs := []) (us := [.pointer (some ⟨bp, 0, none⟩)]) en98 hF rfl rfl rfl (write3_c none 0 0 [] [] .nil (by decide) ls al cl _ _ _ bw bp hln hlz _ _ (Hand.nil hS.fz) hw hp hr) (fun vL w hR a hF => ?_))
  obtain ⟨adn, cpn, Lxn, rfl, hon, hc⟩ := hR
  replace hS : St _ _ (Lxn ++ []) _ := hS.callG (Lx := []) (L := []) hc
  refine hK9 _ _ _ (hS.lose (List.nil_sublist _)) (fun _ h => h) ?_
  refine r_q (i := 9) rfl (by kernel_rfl) (by kernel_rfl) rfl (by kernel_rfl) (fun _ _ _ _ h => h) hF (hS.lose (List.nil_sublist _)) (q_assign rfl) rfl (fun a hF => ?_)
  refine r_q (i := 10) rfl (by kernel_rfl) (by kernel_rfl) rfl (by kernel_rfl) (fun _ _ _ _ h => h) hF (hS.lose (List.nil_sublist _)) (q_assign rfl) rfl (fun a hF => ?_)
  refine r_done (by kernel_rfl) ?_
  refine hK7 _ _ ?_
  refine c_ret ?_
  repeat (first | refine ret_then ?_ | refine ret_blk ?_)
  refine c_ret' (P := Tryd.prog) (fn := Tryd.f25) rfl hF hS (.tmp rfl (.tmp rfl .nil)) ⟨_, rfl, ?_⟩
  rw [List.append_nil] at hS
  exact ⟨adn, cpn, Lxn, rfl, hon, hS.down⟩
end Go.Proofs.YtneokajhmonpaaaDoor
namespace Go.Proofs.YtneokajhmonpaaaDoor
open Go Go.RowKit Go.W
set_option maxRecDepth 10000
namespace T1
theorem mo : Tryd.prog.follows .mixedOrders = true := by kernel_rfl
end T1
open T1

theorem isKind_c (n : Int) (w : World) (H : Froz) (hz : Fz H w) : CallsR Tryd.prog 56 [.int .i64 n] w fun v w' => v = .bool (decide (1 ≤ n ∧ n ≤ 7)) ∧ St ⟨w, H, []⟩ H [] w' := by
  refine calls_start Tryd.func56 rfl Tryd.ntmps56 rfl (fun a hF => ?_)
  have hS := St.start w H hz
  have hS0 := hS
  refine c_seq (fun K1 hK1 => ?_)
  refine c_reg ?_
  refine n_q hF hS (q_assign rfl) rfl (fun a hF => ?_)
  refine hK1 _ _ ?_
  refine c_seq (fun K2 hK2 => ?_)
  refine c_reg ?_
  refine n_q hF hS (q_move rfl) rfl (fun a hF => ?_)
  refine n_q hF hS (q_geq rfl rfl) rfl (fun a hF => ?_)
  refine n_q hF hS (q_move rfl) rfl (fun a hF => ?_)
  refine spd hF (s := 5) rfl (fun hc5 hF => ?_) (fun hc5 hF => ?_)
  · refine n_yes hF rfl ?_
    refine n_q hF hS (q_move rfl) rfl (fun a hF => ?_)
    refine n_yes hF rfl ?_
    refine n_q hF hS (q_leq rfl rfl) rfl (fun a hF => ?_)
    refine n_q hF hS (q_pick (b := true) rfl rfl) rfl (fun a hF => ?_)
    refine n_q hF hS (q_assign rfl) rfl (fun a hF => ?_)
    refine hK2 _ _ ?_
    refine c_ret ?_
    repeat (first | refine ret_then ?_ | refine ret_blk ?_)
    refine c_ret' (P := Tryd.prog) (fn := Tryd.f56) rfl hF hS (.tmp rfl .nil) ⟨_, rfl, ?_⟩
    refine ⟨?_, hS.same⟩
    simp [oneOf] <;> omega
  · refine n_no hF (b := false) rfl rfl rfl (fun a hF => ?_)
    refine n_no hF (b := false) rfl rfl rfl (fun a hF => ?_)
    refine n_q hF hS (q_pick (b := false) rfl rfl) rfl (fun a hF => ?_)
    refine n_q hF hS (q_assign rfl) rfl (fun a hF => ?_)
    refine hK2 _ _ ?_
    refine c_ret ?_
    repeat (first | refine ret_then ?_ | refine ret_blk ?_)
    refine c_ret' (P := Tryd.prog) (fn := Tryd.f56) rfl hF hS (.tmp rfl .nil) ⟨_, rfl, ?_⟩
    refine ⟨?_, hS.same⟩
    simp [oneOf] <;> omega

theorem isFolder_c (n : Int) (w : World) (H : Froz) (hz : Fz H w) : CallsR Tryd.prog 44 [.int .i64 n] w fun v w' => v = .bool (decide (0 ≤ n ∧ n < 16)) ∧ St ⟨w, H, []⟩ H [] w' := by
  refine calls_start Tryd.func44 rfl Tryd.ntmps44 rfl (fun a hF => ?_)
  have hS := St.start w H hz
  have hS0 := hS
  refine c_seq (fun K1 hK1 => ?_)
  refine c_reg ?_
  refine n_q hF hS (q_assign rfl) rfl (fun a hF => ?_)
  refine hK1 _ _ ?_
  refine c_seq (fun K2 hK2 => ?_)
  refine c_reg ?_
  refine n_q hF hS (q_move rfl) rfl (fun a hF => ?_)
  refine n_q hF hS (q_geq rfl rfl) rfl (fun a hF => ?_)
  refine n_q hF hS (q_move rfl) rfl (fun a hF => ?_)
  refine spd hF (s := 5) rfl (fun hc5 hF => ?_) (fun hc5 hF => ?_)
  · refine n_yes hF rfl ?_
    refine n_q hF hS (q_move rfl) rfl (fun a hF => ?_)
    refine n_yes hF rfl ?_
    refine n_q hF hS (q_lss rfl rfl) rfl (fun a hF => ?_)
    refine n_q hF hS (q_pick (b := true) rfl rfl) rfl (fun a hF => ?_)
    refine n_q hF hS (q_assign rfl) rfl (fun a hF => ?_)
    refine hK2 _ _ ?_
    refine c_ret ?_
    repeat (first | refine ret_then ?_ | refine ret_blk ?_)
    refine c_ret' (P := Tryd.prog) (fn := Tryd.f44) rfl hF hS (.tmp rfl .nil) ⟨_, rfl, ?_⟩
    refine ⟨?_, hS.same⟩
    simp [oneOf] <;> omega
  · refine n_no hF (b := false) rfl rfl rfl (fun a hF => ?_)
    refine n_no hF (b := false) rfl rfl rfl (fun a hF => ?_)
    refine n_q hF hS (q_pick (b := false) rfl rfl) rfl (fun a hF => ?_)
    refine n_q hF hS (q_assign rfl) rfl (fun a hF => ?_)
    refine hK2 _ _ ?_
    refine c_ret ?_
    repeat (first | refine ret_then ?_ | refine ret_blk ?_)
    refine c_ret' (P := Tryd.prog) (fn := Tryd.f44) rfl hF hS (.tmp rfl .nil) ⟨_, rfl, ?_⟩
    refine ⟨?_, hS.same⟩
    simp [oneOf] <;> omega

theorem valid_c (n : Int) (w : World) (H : Froz) (hz : Fz H w) : CallsR Tryd.prog 53 [.int .i64 n] w fun v w' => v = .bool (decide (1 ≤ n ∧ n < 2305843009213688669)) ∧ St ⟨w, H, []⟩ H [] w' := by
  refine calls_start Tryd.func53 rfl Tryd.ntmps53 rfl (fun a hF => ?_)
  have hS := St.start w H hz
  have hS0 := hS
  refine c_seq (fun K1 hK1 => ?_)
  refine c_reg ?_
  refine n_q hF hS (q_assign rfl) rfl (fun a hF => ?_)
  refine hK1 _ _ ?_
  refine c_seq (fun K2 hK2 => ?_)
  refine c_reg ?_
  refine n_q hF hS (q_move rfl) rfl (fun a hF => ?_)
  refine n_q hF hS (q_geq rfl rfl) rfl (fun a hF => ?_)
  refine n_q hF hS (q_move rfl) rfl (fun a hF => ?_)
  refine spd hF (s := 5) rfl (fun hc5 hF => ?_) (fun hc5 hF => ?_)
  · refine n_yes hF rfl ?_
    refine n_q hF hS (q_move rfl) rfl (fun a hF => ?_)
    refine n_yes hF rfl ?_
    refine n_q hF hS (q_lss rfl rfl) rfl (fun a hF => ?_)
    refine n_q hF hS (q_pick (b := true) rfl rfl) rfl (fun a hF => ?_)
    refine n_q hF hS (q_assign rfl) rfl (fun a hF => ?_)
    refine hK2 _ _ ?_
    refine c_ret ?_
    repeat (first | refine ret_then ?_ | refine ret_blk ?_)
    refine c_ret' (P := Tryd.prog) (fn := Tryd.f53) rfl hF hS (.tmp rfl .nil) ⟨_, rfl, ?_⟩
    refine ⟨?_, hS.same⟩
    simp [oneOf] <;> omega
  · refine n_no hF (b := false) rfl rfl rfl (fun a hF => ?_)
    refine n_no hF (b := false) rfl rfl rfl (fun a hF => ?_)
    refine n_q hF hS (q_pick (b := false) rfl rfl) rfl (fun a hF => ?_)
    refine n_q hF hS (q_assign rfl) rfl (fun a hF => ?_)
    refine hK2 _ _ ?_
    refine c_ret ?_
    repeat (first | refine ret_then ?_ | refine ret_blk ?_)
    refine c_ret' (P := Tryd.prog) (fn := Tryd.f53) rfl hF hS (.tmp rfl .nil) ⟨_, rfl, ?_⟩
    refine ⟨?_, hS.same⟩
    simp [oneOf] <;> omega
end Go.Proofs.YtneokajhmonpaaaDoor
namespace Go.Proofs.YtneokajhmonpaaaDoor
open Go Go.RowKit Go.W
set_option maxRecDepth 10000
namespace T2
theorem mo : Tryd.prog.follows .mixedOrders = true := by kernel_rfl
end T2
open T2

theorem Len64_c (x : Nat) (hx : x < 18446744073709551616) (w : World) (H : Froz) (hz : Fz H w) : CallsR Tryd.prog 132 [.int .u64 (x : Int)] w fun v w' => v = .int .i64 (bl x : Int) ∧ St ⟨w, H, []⟩ H [] w' := by
  refine calls_start Tryd.func132 rfl Tryd.ntmps132 rfl (fun a hF => ?_)
  have hS := St.start w H hz
  have hS0 := hS
  refine c_seq (fun K1 hK1 => ?_)
  refine c_reg ?_
  refine n_q hF hS (q_assign rfl) rfl (fun a hF => ?_)
  refine hK1 _ _ ?_
  refine c_seq (fun K2 hK2 => ?_)
  refine c_seq (fun K3 hK3 => ?_)
  refine c_reg ?_
  refine n_q hF hS (q_move rfl) rfl (fun a hF => ?_)
  refine n_q hF hS (q_geq rfl rfl) rfl (fun a hF => ?_)
  refine hK3 _ _ ?_
  refine spd hF (s := 4) rfl (fun hc4 hF => ?_) (fun hc4 hF => ?_)
  · refine c_true hF rfl ?_
    refine c_seq (fun K4 hK4 => ?_)
    refine c_reg ?_
    refine n_q hF hS (q_move rfl) rfl (fun a hF => ?_)
    refine n_q hF hS (q_shrC (m := 4294967296) rfl rfl (by decide) rfl) rfl (fun a hF => ?_)
    refine n_q hF hS (q_assign rfl) rfl (fun a hF => ?_)
    refine hK4 _ _ ?_
    refine c_reg ?_
    refine n_q hF hS (q_assign rfl) rfl (fun a hF => ?_)
    refine hK2 _ _ ?_
    refine c_seq (fun K5 hK5 => ?_)
    refine c_seq (fun K6 hK6 => ?_)
    refine c_reg ?_
    refine n_q hF hS (q_move rfl) rfl (fun a hF => ?_)
    refine n_q hF hS (q_geq rfl rfl) rfl (fun a hF => ?_)
    refine hK6 _ _ ?_
    refine spd hF (s := 8) rfl (fun hc8 hF => ?_) (fun hc8 hF => ?_)
    · refine c_true hF rfl ?_
      refine c_seq (fun K7 hK7 => ?_)
      refine c_reg ?_
      refine n_q hF hS (q_move rfl) rfl (fun a hF => ?_)
      refine n_q hF hS (q_shrC (m := 65536) rfl rfl (by decide) rfl) rfl (fun a hF => ?_)
      refine n_q hF hS (q_assign rfl) rfl (fun a hF => ?_)
      refine hK7 _ _ ?_
      refine c_reg ?_
      refine n_q hF hS (q_move rfl) rfl (fun a hF => ?_)
      refine n_q hF hS (q_addI rfl rfl (by omega)) rfl (fun a hF => ?_)
      refine n_q hF hS (q_assign rfl) rfl (fun a hF => ?_)
      refine hK5 _ _ ?_
      refine c_seq (fun K8 hK8 => ?_)
      refine c_seq (fun K9 hK9 => ?_)
      refine c_reg ?_
      refine n_q hF hS (q_move rfl) rfl (fun a hF => ?_)
      refine n_q hF hS (q_geq rfl rfl) rfl (fun a hF => ?_)
      refine hK9 _ _ ?_
      refine spd hF (s := 14) rfl (fun hc14 hF => ?_) (fun hc14 hF => ?_)
      · refine c_true hF rfl ?_
        refine c_seq (fun K10 hK10 => ?_)
        refine c_reg ?_
        refine n_q hF hS (q_move rfl) rfl (fun a hF => ?_)
        refine n_q hF hS (q_shrC (m := 256) rfl rfl (by decide) rfl) rfl (fun a hF => ?_)
        refine n_q hF hS (q_assign rfl) rfl (fun a hF => ?_)
        refine hK10 _ _ ?_
        refine c_reg ?_
        refine n_q hF hS (q_move rfl) rfl (fun a hF => ?_)
        refine n_q hF hS (q_addI rfl rfl (by omega)) rfl (fun a hF => ?_)
        refine n_q hF hS (q_assign rfl) rfl (fun a hF => ?_)
        refine hK8 _ _ ?_
        refine c_seq (fun K11 hK11 => ?_)
        refine c_reg ?_
        refine n_q hF hS (q_move rfl) rfl (fun a hF => ?_)
        refine n_q hF hS (q_move rfl) rfl (fun a hF => ?_)
        refine n_q hF hS (q_cv8 Tryd.underlying160 Tryd.underlying5 rfl) rfl (fun a hF => ?_)
        refine n_q hF hS (q_len8 Tryd.underlying9 rfl (by decide +kernel) rfl (by omega)) rfl (fun a hF => ?_)
        refine n_q hF hS (q_cvI Tryd.underlying5 Tryd.underlying3 rfl (bl8I (Nat.mod_lt _ (by decide)))) rfl (fun a hF => ?_)
        refine n_q hF hS (q_addI rfl rfl (bl8A (by omega) (Nat.mod_lt _ (by decide)))) rfl (fun a hF => ?_)
        refine n_q hF hS (q_assign rfl) rfl (fun a hF => ?_)
        refine hK11 _ _ ?_
        refine c_ret ?_
        repeat (first | refine ret_then ?_ | refine ret_blk ?_)
        refine c_ret' (P := Tryd.prog) (fn := Tryd.f132) rfl hF hS (.tmp rfl .nil) ⟨_, rfl, ?_⟩
        have hm : (((x / 4294967296) / 65536) / 256) % 256 = (((x / 4294967296) / 65536) / 256) := Nat.mod_eq_of_lt (by omega)
        refine ⟨?_, hS.same⟩
        rw [hm]
        rw [len64_b (x := x) (by omega), len64_c (x := (x / 4294967296)) (by omega), len64_d (x := ((x / 4294967296) / 65536)) (by omega)]
        simp only [oneOf, Value.int.injEq, true_and]
        push_cast
        omega
      · refine c_false hF rfl ?_
        refine wp_skip ?_
        refine hK8 _ _ ?_
        refine c_seq (fun K12 hK12 => ?_)
        refine c_reg ?_
        refine n_q hF hS (q_move rfl) rfl (fun a hF => ?_)
        refine n_q hF hS (q_move rfl) rfl (fun a hF => ?_)
        refine n_q hF hS (q_cv8 Tryd.underlying160 Tryd.underlying5 rfl) rfl (fun a hF => ?_)
        refine n_q hF hS (q_len8 Tryd.underlying9 rfl (by decide +kernel) rfl (by omega)) rfl (fun a hF => ?_)
        refine n_q hF hS (q_cvI Tryd.underlying5 Tryd.underlying3 rfl (bl8I (Nat.mod_lt _ (by decide)))) rfl (fun a hF => ?_)
        refine n_q hF hS (q_addI rfl rfl (bl8A (by omega) (Nat.mod_lt _ (by decide)))) rfl (fun a hF => ?_)
        refine n_q hF hS (q_assign rfl) rfl (fun a hF => ?_)
        refine hK12 _ _ ?_
        refine c_ret ?_
        repeat (first | refine ret_then ?_ | refine ret_blk ?_)
        refine c_ret' (P := Tryd.prog) (fn := Tryd.f132) rfl hF hS (.tmp rfl .nil) ⟨_, rfl, ?_⟩
        have hm : ((x / 4294967296) / 65536) % 256 = ((x / 4294967296) / 65536) := Nat.mod_eq_of_lt (by omega)
        refine ⟨?_, hS.same⟩
        rw [hm]
        rw [len64_b (x := x) (by omega), len64_c (x := (x / 4294967296)) (by omega)]
        simp only [oneOf, Value.int.injEq, true_and]
        push_cast
        omega
    · refine c_false hF rfl ?_
      refine wp_skip ?_
      refine hK5 _ _ ?_
      refine c_seq (fun K13 hK13 => ?_)
      refine c_seq (fun K14 hK14 => ?_)
      refine c_reg ?_
      refine n_q hF hS (q_move rfl) rfl (fun a hF => ?_)
      refine n_q hF hS (q_geq rfl rfl) rfl (fun a hF => ?_)
      refine hK14 _ _ ?_
      refine spd hF (s := 14) rfl (fun hc14 hF => ?_) (fun hc14 hF => ?_)
      · refine c_true hF rfl ?_
        refine c_seq (fun K15 hK15 => ?_)
        refine c_reg ?_
        refine n_q hF hS (q_move rfl) rfl (fun a hF => ?_)
        refine n_q hF hS (q_shrC (m := 256) rfl rfl (by decide) rfl) rfl (fun a hF => ?_)
        refine n_q hF hS (q_assign rfl) rfl (fun a hF => ?_)
        refine hK15 _ _ ?_
        refine c_reg ?_
        refine n_q hF hS (q_move rfl) rfl (fun a hF => ?_)
        refine n_q hF hS (q_addI rfl rfl (by omega)) rfl (fun a hF => ?_)
        refine n_q hF hS (q_assign rfl) rfl (fun a hF => ?_)
        refine hK13 _ _ ?_
        refine c_seq (fun K16 hK16 => ?_)
        refine c_reg ?_
        refine n_q hF hS (q_move rfl) rfl (fun a hF => ?_)
        refine n_q hF hS (q_move rfl) rfl (fun a hF => ?_)
        refine n_q hF hS (q_cv8 Tryd.underlying160 Tryd.underlying5 rfl) rfl (fun a hF => ?_)
        refine n_q hF hS (q_len8 Tryd.underlying9 rfl (by decide +kernel) rfl (by omega)) rfl (fun a hF => ?_)
        refine n_q hF hS (q_cvI Tryd.underlying5 Tryd.underlying3 rfl (bl8I (Nat.mod_lt _ (by decide)))) rfl (fun a hF => ?_)
        refine n_q hF hS (q_addI rfl rfl (bl8A (by omega) (Nat.mod_lt _ (by decide)))) rfl (fun a hF => ?_)
        refine n_q hF hS (q_assign rfl) rfl (fun a hF => ?_)
        refine hK16 _ _ ?_
        refine c_ret ?_
        repeat (first | refine ret_then ?_ | refine ret_blk ?_)
        refine c_ret' (P := Tryd.prog) (fn := Tryd.f132) rfl hF hS (.tmp rfl .nil) ⟨_, rfl, ?_⟩
        have hm : ((x / 4294967296) / 256) % 256 = ((x / 4294967296) / 256) := Nat.mod_eq_of_lt (by omega)
        refine ⟨?_, hS.same⟩
        rw [hm]
        rw [len64_b (x := x) (by omega), len64_d (x := (x / 4294967296)) (by omega)]
        simp only [oneOf, Value.int.injEq, true_and]
        push_cast
        omega
      · refine c_false hF rfl ?_
        refine wp_skip ?_
        refine hK13 _ _ ?_
        refine c_seq (fun K17 hK17 => ?_)
        refine c_reg ?_
        refine n_q hF hS (q_move rfl) rfl (fun a hF => ?_)
        refine n_q hF hS (q_move rfl) rfl (fun a hF => ?_)
        refine n_q hF hS (q_cv8 Tryd.underlying160 Tryd.underlying5 rfl) rfl (fun a hF => ?_)
        refine n_q hF hS (q_len8 Tryd.underlying9 rfl (by decide +kernel) rfl (by omega)) rfl (fun a hF => ?_)
        refine n_q hF hS (q_cvI Tryd.underlying5 Tryd.underlying3 rfl (bl8I (Nat.mod_lt _ (by decide)))) rfl (fun a hF => ?_)
        refine n_q hF hS (q_addI rfl rfl (bl8A (by omega) (Nat.mod_lt _ (by decide)))) rfl (fun a hF => ?_)
        refine n_q hF hS (q_assign rfl) rfl (fun a hF => ?_)
        refine hK17 _ _ ?_
        refine c_ret ?_
        repeat (first | refine ret_then ?_ | refine ret_blk ?_)
        refine c_ret' (P := Tryd.prog) (fn := Tryd.f132) rfl hF hS (.tmp rfl .nil) ⟨_, rfl, ?_⟩
        have hm : (x / 4294967296) % 256 = (x / 4294967296) := Nat.mod_eq_of_lt (by omega)
        refine ⟨?_, hS.same⟩
        rw [hm]
        rw [len64_b (x := x) (by omega)]
        simp only [oneOf, Value.int.injEq, true_and]
        push_cast
        omega
  · refine c_false hF rfl ?_
    refine wp_skip ?_
    refine hK2 _ _ ?_
    refine c_seq (fun K18 hK18 => ?_)
    refine c_seq (fun K19 hK19 => ?_)
    refine c_reg ?_
    refine n_q hF hS (q_move rfl) rfl (fun a hF => ?_)
    refine n_q hF hS (q_geq rfl rfl) rfl (fun a hF => ?_)
    refine hK19 _ _ ?_
    refine spd hF (s := 8) rfl (fun hc8 hF => ?_) (fun hc8 hF => ?_)
    · refine c_true hF rfl ?_
      refine c_seq (fun K20 hK20 => ?_)
      refine c_reg ?_
      refine n_q hF hS (q_move rfl) rfl (fun a hF => ?_)
      refine n_q hF hS (q_shrC (m := 65536) rfl rfl (by decide) rfl) rfl (fun a hF => ?_)
      refine n_q hF hS (q_assign rfl) rfl (fun a hF => ?_)
      refine hK20 _ _ ?_
      refine c_reg ?_
      refine n_q hF hS (q_move rfl) rfl (fun a hF => ?_)
      refine n_q hF hS (q_addI rfl rfl (by omega)) rfl (fun a hF => ?_)
      refine n_q hF hS (q_assign rfl) rfl (fun a hF => ?_)
      refine hK18 _ _ ?_
      refine c_seq (fun K21 hK21 => ?_)
      refine c_seq (fun K22 hK22 => ?_)
      refine c_reg ?_
      refine n_q hF hS (q_move rfl) rfl (fun a hF => ?_)
      refine n_q hF hS (q_geq rfl rfl) rfl (fun a hF => ?_)
      refine hK22 _ _ ?_
      refine spd hF (s := 14) rfl (fun hc14 hF => ?_) (fun hc14 hF => ?_)
      · refine c_true hF rfl ?_
        refine c_seq (fun K23 hK23 => ?_)
        refine c_reg ?_
        refine n_q hF hS (q_move rfl) rfl (fun a hF => ?_)
        refine n_q hF hS (q_shrC (m := 256) rfl rfl (by decide) rfl) rfl (fun a hF => ?_)
        refine n_q hF hS (q_assign rfl) rfl (fun a hF => ?_)
        refine hK23 _ _ ?_
        refine c_reg ?_
        refine n_q hF hS (q_move rfl) rfl (fun a hF => ?_)
        refine n_q hF hS (q_addI rfl rfl (by omega)) rfl (fun a hF => ?_)
        refine n_q hF hS (q_assign rfl) rfl (fun a hF => ?_)
        refine hK21 _ _ ?_
        refine c_seq (fun K24 hK24 => ?_)
        refine c_reg ?_
        refine n_q hF hS (q_move rfl) rfl (fun a hF => ?_)
        refine n_q hF hS (q_move rfl) rfl (fun a hF => ?_)
        refine n_q hF hS (q_cv8 Tryd.underlying160 Tryd.underlying5 rfl) rfl (fun a hF => ?_)
        refine n_q hF hS (q_len8 Tryd.underlying9 rfl (by decide +kernel) rfl (by omega)) rfl (fun a hF => ?_)
        refine n_q hF hS (q_cvI Tryd.underlying5 Tryd.underlying3 rfl (bl8I (Nat.mod_lt _ (by decide)))) rfl (fun a hF => ?_)
        refine n_q hF hS (q_addI rfl rfl (bl8A (by omega) (Nat.mod_lt _ (by decide)))) rfl (fun a hF => ?_)
        refine n_q hF hS (q_assign rfl) rfl (fun a hF => ?_)
        refine hK24 _ _ ?_
        refine c_ret ?_
        repeat (first | refine ret_then ?_ | refine ret_blk ?_)
        refine c_ret' (P := Tryd.prog) (fn := Tryd.f132) rfl hF hS (.tmp rfl .nil) ⟨_, rfl, ?_⟩
        have hm : ((x / 65536) / 256) % 256 = ((x / 65536) / 256) := Nat.mod_eq_of_lt (by omega)
        refine ⟨?_, hS.same⟩
        rw [hm]
        rw [len64_c (x := x) (by omega), len64_d (x := (x / 65536)) (by omega)]
        simp only [oneOf, Value.int.injEq, true_and]
        push_cast
        omega
      · refine c_false hF rfl ?_
        refine wp_skip ?_
        refine hK21 _ _ ?_
        refine c_seq (fun K25 hK25 => ?_)
        refine c_reg ?_
        refine n_q hF hS (q_move rfl) rfl (fun a hF => ?_)
        refine n_q hF hS (q_move rfl) rfl (fun a hF => ?_)
        refine n_q hF hS (q_cv8 Tryd.underlying160 Tryd.underlying5 rfl) rfl (fun a hF => ?_)
        refine n_q hF hS (q_len8 Tryd.underlying9 rfl (by decide +kernel) rfl (by omega)) rfl (fun a hF => ?_)
        refine n_q hF hS (q_cvI Tryd.underlying5 Tryd.underlying3 rfl (bl8I (Nat.mod_lt _ (by decide)))) rfl (fun a hF => ?_)
        refine n_q hF hS (q_addI rfl rfl (bl8A (by omega) (Nat.mod_lt _ (by decide)))) rfl (fun a hF => ?_)
        refine n_q hF hS (q_assign rfl) rfl (fun a hF => ?_)
        refine hK25 _ _ ?_
        refine c_ret ?_
        repeat (first | refine ret_then ?_ | refine ret_blk ?_)
        refine c_ret' (P := Tryd.prog) (fn := Tryd.f132) rfl hF hS (.tmp rfl .nil) ⟨_, rfl, ?_⟩
        have hm : (x / 65536) % 256 = (x / 65536) := Nat.mod_eq_of_lt (by omega)
        refine ⟨?_, hS.same⟩
        rw [hm]
        rw [len64_c (x := x) (by omega)]
        simp only [oneOf, Value.int.injEq, true_and]
        push_cast
        omega
    · refine c_false hF rfl ?_
      refine wp_skip ?_
      refine hK18 _ _ ?_
      refine c_seq (fun K26 hK26 => ?_)
      refine c_seq (fun K27 hK27 => ?_)
      refine c_reg ?_
      refine n_q hF hS (q_move rfl) rfl (fun a hF => ?_)
      refine n_q hF hS (q_geq rfl rfl) rfl (fun a hF => ?_)
      refine hK27 _ _ ?_
      refine spd hF (s := 14) rfl (fun hc14 hF => ?_) (fun hc14 hF => ?_)
      · refine c_true hF rfl ?_
        refine c_seq (fun K28 hK28 => ?_)
        refine c_reg ?_
        refine n_q hF hS (q_move rfl) rfl (fun a hF => ?_)
        refine n_q hF hS (q_shrC (m := 256) rfl rfl (by decide) rfl) rfl (fun a hF => ?_)
        refine n_q hF hS (q_assign rfl) rfl (fun a hF => ?_)
        refine hK28 _ _ ?_
        refine c_reg ?_
        refine n_q hF hS (q_move rfl) rfl (fun a hF => ?_)
        refine n_q hF hS (q_addI rfl rfl (by omega)) rfl (fun a hF => ?_)
        refine n_q hF hS (q_assign rfl) rfl (fun a hF => ?_)
        refine hK26 _ _ ?_
        refine c_seq (fun K29 hK29 => ?_)
        refine c_reg ?_
        refine n_q hF hS (q_move rfl) rfl (fun a hF => ?_)
        refine n_q hF hS (q_move rfl) rfl (fun a hF => ?_)
        refine n_q hF hS (q_cv8 Tryd.underlying160 Tryd.underlying5 rfl) rfl (fun a hF => ?_)
        refine n_q hF hS (q_len8 Tryd.underlying9 rfl (by decide +kernel) rfl (by omega)) rfl (fun a hF => ?_)
        refine n_q hF hS (q_cvI Tryd.underlying5 Tryd.underlying3 rfl (bl8I (Nat.mod_lt _ (by decide)))) rfl (fun a hF => ?_)
        refine n_q hF hS (q_addI rfl rfl (bl8A (by omega) (Nat.mod_lt _ (by decide)))) rfl (fun a hF => ?_)
        refine n_q hF hS (q_assign rfl) rfl (fun a hF => ?_)
        refine hK29 _ _ ?_
        refine c_ret ?_
        repeat (first | refine ret_then ?_ | refine ret_blk ?_)
        refine c_ret' (P := Tryd.prog) (fn := Tryd.f132) rfl hF hS (.tmp rfl .nil) ⟨_, rfl, ?_⟩
        have hm : (x / 256) % 256 = (x / 256) := Nat.mod_eq_of_lt (by omega)
        refine ⟨?_, hS.same⟩
        rw [hm]
        rw [len64_d (x := x) (by omega)]
        simp only [oneOf, Value.int.injEq, true_and]
        push_cast
        omega
      · refine c_false hF rfl ?_
        refine wp_skip ?_
        refine hK26 _ _ ?_
        refine c_seq (fun K30 hK30 => ?_)
        refine c_reg ?_
        refine n_q hF hS (q_move rfl) rfl (fun a hF => ?_)
        refine n_q hF hS (q_move rfl) rfl (fun a hF => ?_)
        refine n_q hF hS (q_cv8 Tryd.underlying160 Tryd.underlying5 rfl) rfl (fun a hF => ?_)
        refine n_q hF hS (q_len8 Tryd.underlying9 rfl (by decide +kernel) rfl (by omega)) rfl (fun a hF => ?_)
        refine n_q hF hS (q_cvI Tryd.underlying5 Tryd.underlying3 rfl (bl8I (Nat.mod_lt _ (by decide)))) rfl (fun a hF => ?_)
        refine n_q hF hS (q_addI rfl rfl (bl8A (by omega) (Nat.mod_lt _ (by decide)))) rfl (fun a hF => ?_)
        refine n_q hF hS (q_assign rfl) rfl (fun a hF => ?_)
        refine hK30 _ _ ?_
        refine c_ret ?_
        repeat (first | refine ret_then ?_ | refine ret_blk ?_)
        refine c_ret' (P := Tryd.prog) (fn := Tryd.f132) rfl hF hS (.tmp rfl .nil) ⟨_, rfl, ?_⟩
        have hm : x % 256 = x := Nat.mod_eq_of_lt (by omega)
        refine ⟨?_, hS.same⟩
        rw [hm]
        simp only [oneOf, Value.int.injEq, true_and]
        push_cast
        omega
end Go.Proofs.YtneokajhmonpaaaDoor
namespace Go.Proofs.YtneokajhmonpaaaDoor
open Go Go.RowKit Go.W
set_option maxRecDepth 10000
namespace T3
theorem en132 : enS Tryd.prog 132 = true := by kernel_rfl
theorem mo : Tryd.prog.follows .mixedOrders = true := by kernel_rfl
end T3
open T3

theorem LeadingZeros64_c (x : Nat) (hx : x < 18446744073709551616) (w : World) (H : Froz) (hz : Fz H w) : CallsR Tryd.prog 135 [.int .u64 (x : Int)] w fun v w' => v = .int .i64 (64 - (bl x : Int)) ∧ St ⟨w, H, []⟩ H [] w' := by
  refine calls_start Tryd.func135 rfl Tryd.ntmps135 rfl (fun a hF => ?_)
  have hS := St.start w H hz
  have hS0 := hS
  have hb := bl_le (x := x) (n := 64) hx
  refine c_seq (fun K1 hK1 => ?_)
  refine c_reg ?_
  refine n_q hF hS (q_assign rfl) rfl (fun a hF => ?_)
  refine hK1 _ _ ?_
  refine c_seq (fun K2 hK2 => ?_)
  refine c_reg ?_
  refine n_q hF hS (q_move rfl) rfl (fun a hF => ?_)
  refine n_l rfl (fun K3 hK3 => l_call en132 hF rfl rfl (Len64_c _ (by omega) _ _ hS.fz) (fun v3 w hR a hF => ?_))
  obtain ⟨rfl, hc⟩ := hR
  replace hS := hS.call0 hc
  refine hK3 _ _ ?_
  refine n_q hF hS (q_subI rfl rfl (by omega)) rfl (fun a hF => ?_)
  refine n_q hF hS (q_assign rfl) rfl (fun a hF => ?_)
  refine hK2 _ _ ?_
  refine c_ret ?_
  repeat (first | refine ret_then ?_ | refine ret_blk ?_)
  refine c_ret' (P := Tryd.prog) (fn := Tryd.f135) rfl hF hS (.tmp rfl .nil) ⟨_, rfl, ?_⟩
  exact ⟨rfl, hS.same⟩

theorem Mul64_c (x y : Nat) (hx : x < 18446744073709551616) (hy : y < 18446744073709551616) (w : World) (H : Froz) (hz : Fz H w) : CallsR Tryd.prog 123 [.int .u64 (x : Int), .int .u64 (y : Int)] w fun v w' => v = .tuple #[.int .u64 ((x * y / 18446744073709551616 : Nat) : Int), .int .u64 ((x * y % 18446744073709551616 : Nat) : Int)] ∧ St ⟨w, H, []⟩ H [] w' := by
  refine calls_start Tryd.func123 rfl Tryd.ntmps123 rfl (fun a hF => ?_)
  have hS := St.start w H hz
  have hS0 := hS
  have M := Lib.mul64_hi x y hx hy
  have h1 := Lib.half_mul_le (a := x / 4294967296) (b := y % 4294967296) (by omega) (by omega)
  have h2 := Lib.half_mul_le (a := x % 4294967296) (b := y / 4294967296) (by omega) (by omega)
  have h3 := Lib.half_mul_le (a := x / 4294967296) (b := y / 4294967296) (by omega) (by omega)
  have hq : x * y / 18446744073709551616 < 18446744073709551616 := by
    rw [Nat.div_lt_iff_lt_mul (by omega)]
    exact Nat.mul_lt_mul'' hx hy
  refine c_seq (fun K1 hK1 => ?_)
  refine c_reg ?_
  refine n_q hF hS (q_assign rfl) rfl (fun a hF => ?_)
  refine n_q hF hS (q_assign rfl) rfl (fun a hF => ?_)
  refine hK1 _ _ ?_
  refine c_seq (fun K2 hK2 => ?_)
  refine c_reg ?_
  refine n_q hF hS (q_move rfl) rfl (fun a hF => ?_)
  refine n_q hF hS (q_mask32 rfl rfl hx) rfl (fun a hF => ?_)
  refine n_q hF hS (q_assign rfl) rfl (fun a hF => ?_)
  refine hK2 _ _ ?_
  refine c_seq (fun K3 hK3 => ?_)
  refine c_reg ?_
  refine n_q hF hS (q_move rfl) rfl (fun a hF => ?_)
  refine n_q hF hS (q_shrC (m := 4294967296) rfl rfl (by decide) rfl) rfl (fun a hF => ?_)
  refine n_q hF hS (q_assign rfl) rfl (fun a hF => ?_)
  refine hK3 _ _ ?_
  refine c_seq (fun K4 hK4 => ?_)
  refine c_reg ?_
  refine n_q hF hS (q_move rfl) rfl (fun a hF => ?_)
  refine n_q hF hS (q_mask32 rfl rfl hy) rfl (fun a hF => ?_)
  refine n_q hF hS (q_assign rfl) rfl (fun a hF => ?_)
  refine hK4 _ _ ?_
  refine c_seq (fun K5 hK5 => ?_)
  refine c_reg ?_
  refine n_q hF hS (q_move rfl) rfl (fun a hF => ?_)
  refine n_q hF hS (q_shrC (m := 4294967296) rfl rfl (by decide) rfl) rfl (fun a hF => ?_)
  refine n_q hF hS (q_assign rfl) rfl (fun a hF => ?_)
  refine hK5 _ _ ?_
  refine c_seq (fun K6 hK6 => ?_)
  refine c_reg ?_
  refine n_q hF hS (q_move rfl) rfl (fun a hF => ?_)
  refine n_q hF hS (q_move rfl) rfl (fun a hF => ?_)
  refine n_q hF hS (q_mul64n rfl rfl M.1) rfl (fun a hF => ?_)
  refine n_q hF hS (q_assign rfl) rfl (fun a hF => ?_)
  refine hK6 _ _ ?_
  refine c_seq (fun K7 hK7 => ?_)
  refine c_reg ?_
  refine n_q hF hS (q_move rfl) rfl (fun a hF => ?_)
  refine n_q hF hS (q_move rfl) rfl (fun a hF => ?_)
  refine n_q hF hS (q_mul64n rfl rfl (by omega)) rfl (fun a hF => ?_)
  refine n_q hF hS (q_move rfl) rfl (fun a hF => ?_)
  refine n_q hF hS (q_shrC (m := 4294967296) rfl rfl (by decide) rfl) rfl (fun a hF => ?_)
  refine n_q hF hS (q_add64n rfl rfl M.2.1) rfl (fun a hF => ?_)
  refine n_q hF hS (q_assign rfl) rfl (fun a hF => ?_)
  refine hK7 _ _ ?_
  refine c_seq (fun K8 hK8 => ?_)
  refine c_reg ?_
  refine n_q hF hS (q_move rfl) rfl (fun a hF => ?_)
  refine n_q hF hS (q_mask32 rfl rfl M.2.1) rfl (fun a hF => ?_)
  refine n_q hF hS (q_assign rfl) rfl (fun a hF => ?_)
  refine hK8 _ _ ?_
  refine c_seq (fun K9 hK9 => ?_)
  refine c_reg ?_
  refine n_q hF hS (q_move rfl) rfl (fun a hF => ?_)
  refine n_q hF hS (q_shrC (m := 4294967296) rfl rfl (by decide) rfl) rfl (fun a hF => ?_)
  refine n_q hF hS (q_assign rfl) rfl (fun a hF => ?_)
  refine hK9 _ _ ?_
  refine c_seq (fun K10 hK10 => ?_)
  refine c_reg ?_
  refine n_q hF hS (q_move rfl) rfl (fun a hF => ?_)
  refine n_q hF hS (q_move rfl) rfl (fun a hF => ?_)
  refine n_q hF hS (q_move rfl) rfl (fun a hF => ?_)
  refine n_q hF hS (q_mul64n rfl rfl (by omega)) rfl (fun a hF => ?_)
  refine n_q hF hS (q_add64n rfl rfl M.2.2.1) rfl (fun a hF => ?_)
  refine n_q hF hS (q_assign rfl) rfl (fun a hF => ?_)
  refine hK10 _ _ ?_
  refine c_seq (fun K11 hK11 => ?_)
  refine c_reg ?_
  refine n_q hF hS (q_move rfl) rfl (fun a hF => ?_)
  refine n_q hF hS (q_move rfl) rfl (fun a hF => ?_)
  refine n_q hF hS (q_mul64n rfl rfl (by omega)) rfl (fun a hF => ?_)
  refine n_q hF hS (q_move rfl) rfl (fun a hF => ?_)
  refine n_q hF hS (q_add64n rfl rfl (by have := M.2.2.2; omega)) rfl (fun a hF => ?_)
  refine n_q hF hS (q_move rfl) rfl (fun a hF => ?_)
  refine n_q hF hS (q_shrC (m := 4294967296) rfl rfl (by decide) rfl) rfl (fun a hF => ?_)
  refine n_q hF hS (q_add64n rfl rfl (by have := M.2.2.2; omega)) rfl (fun a hF => ?_)
  refine n_q hF hS (q_assign rfl) rfl (fun a hF => ?_)
  refine hK11 _ _ ?_
  refine c_seq (fun K12 hK12 => ?_)
  refine c_reg ?_
  refine n_q hF hS (q_move rfl) rfl (fun a hF => ?_)
  refine n_q hF hS (q_move rfl) rfl (fun a hF => ?_)
  refine n_q hF hS (q_mul64 rfl rfl) rfl (fun a hF => ?_)
  refine n_q hF hS (q_assign rfl) rfl (fun a hF => ?_)
  refine hK12 _ _ ?_
  refine c_ret ?_
  repeat (first | refine ret_then ?_ | refine ret_blk ?_)
  refine c_ret' (P := Tryd.prog) (fn := Tryd.f123) rfl hF hS (.tmp rfl (.tmp rfl .nil)) ⟨_, rfl, ?_⟩
  exact ⟨by show Value.tuple _ = _; simp only [M.2.2.2], hS.same⟩

theorem RotateLeft32_c (x k : Nat) (j : Int) (hx : x < 4294967296) (hk : 1 ≤ k ∧ k ≤ 31) (hj : j = -(k : Int)) (w : World) (H : Froz) (hz : Fz H w) : CallsR Tryd.prog 117 [.int .u32 (x : Int), .int .i64 j] w fun v w' => v = .int .u32 ((rotr x k : Nat) : Int) ∧ St ⟨w, H, []⟩ H [] w' := by
  refine calls_start Tryd.func117 rfl Tryd.ntmps117 rfl (fun a hF => ?_)
  have hS := St.start w H hz
  have hS0 := hS
  subst hj
  refine c_seq (fun K1 hK1 => ?_)
  refine c_reg ?_
  refine n_q hF hS (q_assign rfl) rfl (fun a hF => ?_)
  refine hK1 _ _ ?_
  refine c_seq (fun K2 hK2 => ?_)
  refine c_reg ?_
  refine n_q hF hS (q_move rfl) rfl (fun a hF => ?_)
  refine n_q hF hS (q_cv (r := ((18446744073709551616 - k : Nat) : Int)) Tryd.underlying3 Tryd.underlying178 rfl (wrap_neg hk)) rfl (fun a hF => ?_)
  refine n_q hF hS (q_and_eq (m := 18446744073709551616) (r := 32 - k) rfl rfl rfl rfl (by omega) (by decide) (and31 hk)) rfl (fun a hF => ?_)
  refine n_q hF hS (q_assign rfl) rfl (fun a hF => ?_)
  refine hK2 _ _ ?_
  refine c_seq (fun K3 hK3 => ?_)
  refine c_reg ?_
  refine n_q hF hS (q_move rfl) rfl (fun a hF => ?_)
  refine n_q hF hS (q_move rfl) rfl (fun a hF => ?_)
  refine n_q hF hS (q_shl (k := .u32) (m := 4294967296) rfl rfl rfl rfl (show 32 - k ≤ 32 by omega)) rfl (fun a hF => ?_)
  refine n_q hF hS (q_move rfl) rfl (fun a hF => ?_)
  refine n_q hF hS (q_move rfl) rfl (fun a hF => ?_)
  refine n_q hF hS (q_sub64n (a := 32) rfl rfl (by decide) (by omega)) rfl (fun a hF => ?_)
  refine n_q hF hS (q_shr rfl rfl (show 32 - (32 - k) ≤ 32 by omega)) rfl (fun a hF => ?_)
  refine n_q hF hS (q_or (m := 4294967296) rfl rfl rfl rfl (Nat.mod_lt _ (by decide)) (Nat.lt_of_le_of_lt (Nat.div_le_self _ _) hx)) rfl (fun a hF => ?_)
  refine n_q hF hS (q_assign rfl) rfl (fun a hF => ?_)
  refine hK3 _ _ ?_
  refine c_ret ?_
  repeat (first | refine ret_then ?_ | refine ret_blk ?_)
  refine c_ret' (P := Tryd.prog) (fn := Tryd.f117) rfl hF hS (.tmp rfl .nil) ⟨_, rfl, ?_⟩
  exact ⟨by show Value.int _ _ = _; unfold rotr; rw [show 32 - (32 - k) = k by omega], hS.same⟩
end Go.Proofs.YtneokajhmonpaaaDoor
namespace Go.Proofs.YtneokajhmonpaaaDoor
open Go Go.RowKit Go.W
set_option maxRecDepth 10000
namespace T7
theorem en117 : enS Tryd.prog 117 = true := by kernel_rfl
theorem ty5 : tyS Tryd.prog 5 = some (false, 1) := by kernel_rfl
theorem mo : Tryd.prog.follows .mixedOrders = true := by kernel_rfl
end T7
open T7

theorem word_c (bs : List UInt8) (a : Option Addr) (n c : Nat) (hn : 4 ≤ n) (hc : n ≤ c) (w : World) (H : Froz) (hz : Fz H w) (hr : RdS H a n 1 (bc bs)) :
    CallsR Tryd.prog 116 [.slice a n c] w fun v w' => v = .int .u32 (word4 bs : Int) ∧ St ⟨w, H, []⟩ H [] w' := by
  refine calls_start Tryd.func116 rfl Tryd.ntmps116 rfl (fun a hF => ?_)
  have hS := St.start w H hz
  have hl := hr.bytes
  refine c_seq (fun K1 hK1 => ?_)
  refine c_reg ?_
  refine n_q hF hS (q_assign rfl) rfl (fun a hF => ?_)
  refine hK1 _ _ ?_
  refine c_seq (fun K2 hK2 => ?_)
  refine c_seq (fun K3 hK3 => ?_)
  refine c_reg ?_
  refine n_q hF hS (q_move rfl) rfl (fun a hF => ?_)
  refine n_q hF hS (q_slice (n := n) (c := c) (m := c) (h := 4) (l := 0) Tryd.underlying46 ty5 rfl rfl ⟨_, rfl, by omega⟩ rfl) rfl (fun a hF => ?_)
  refine n_q hF hS (q_len Tryd.underlying46 rfl rfl) rfl (fun a hF => ?_)
  refine n_q hF hS (q_move rfl) rfl (fun a hF => ?_)
  refine hK3 _ _ ?_
  refine c_block ?_
  refine c_loopS hF [2, 4, 8, 9, 10, 11, 12, 13, 14, 15, 16, 17]
    (fun k : Nat => [(2, .int .u32 (wordN (bn bs) k : Int)), (8, .int .i64 (k : Int))])
    (fun _ => [])
    (fun k _ => k ≤ 4)
    (fun k => 4 - k) (0) ⟨rfl, rfl, trivial⟩ (hS) (Nat.zero_le _) ?_
  clear hF hS
  intro k a w H hle hF hS hJ
  replace hr := hr.mono hle
  have hl0 := Le.refl H
  dsimp only at hF hJ
  refine c_seq (fun K4 hK4 => ?_)
  refine c_reg ?_
  refine n_q hF hS (q_lss rfl rfl) rfl (fun a hF => ?_)
  refine hK4 _ _ ?_
  refine c_seq (fun K5 hK5 => ?_)
  refine spd hF (s := 9) rfl (fun hc9 hF => ?_) (fun hc9 hF => ?_)
  · refine c_true hF rfl ?_
    refine wp_skip ?_
    refine hK5 _ _ ?_
    refine c_seq (fun K6 hK6 => ?_)
    refine c_block ?_
    refine c_seq (fun K7 hK7 => ?_)
    refine c_reg ?_
    have hlt : k < 4 := by omega
    have hr2 := hr.cutB (c := c) (l := 0) (h := 4) (by omega) (by omega) (by omega)
    refine n_q hF hS (q_indexAddrS Tryd.underlying46 ty5 rfl rfl (by omega) (hr2.some (by omega))) rfl (fun a hF => ?_)
    refine n_q hF hS (q_loadE (v := .int .u8 (gt (bn bs) k : Int)) ty5 rfl hr2 (by simp [bc_length]; omega) rfl (by simp only [ldv, cond_false, Int.toNat_natCast, Nat.mul_one]; rw [List.drop_zero, bc_getn (by simp; omega)]; simp [gt, bn, List.getD_eq_getElem?_getD, List.getElem?_take, hlt])) rfl (fun a hF => ?_)
    refine n_q hF hS (q_assign rfl) rfl (fun a hF => ?_)
    refine hK7 _ _ ?_
    refine c_reg ?_
    refine n_q hF hS (q_move rfl) rfl (fun a hF => ?_)
    refine n_q hF hS (q_shl (m := 4294967296) (s := 8) rfl rfl rfl rfl (by decide)) rfl (fun a hF => ?_)
    refine n_q hF hS (q_move rfl) rfl (fun a hF => ?_)
    refine n_q hF hS (q_cv32 Tryd.underlying5 Tryd.underlying162 rfl (by have := gt_bn_lt bs k; omega)) rfl (fun a hF => ?_)
    refine n_q hF hS (q_or (m := 4294967296) rfl rfl rfl rfl (Nat.mod_lt _ (by decide)) (by have := gt_bn_lt bs k; omega)) rfl (fun a hF => ?_)
    refine n_q hF hS (q_assign rfl) rfl (fun a hF => ?_)
    refine hK6 _ _ ?_
    refine c_reg ?_
    refine n_q hF hS (q_addI rfl rfl (by omega)) rfl (fun a hF => ?_)
    refine n_q hF hS (q_move rfl) rfl (fun a hF => ?_)
    exact ⟨k + 1, _, (by show 4 - (k + 1) < 4 - k; omega), hl0, hF.back ⟨by show some (Value.int _ _) = some (Value.int _ _); rw [wordN_succ (by rw [bn_length]; omega)], rfl, trivial⟩ rfl (by repeat first | exact Ext.refl _ _ | refine Ext.rem' rfl ?_ | refine Ext.push rfl ?_), hS.lose (.refl _), (by omega)⟩
  · refine c_false hF rfl ?_
    refine c_exit ?_
    refine hK2 _ _ ?_
    refine c_seq (fun K8 hK8 => ?_)
    refine c_reg ?_
    refine n_q hF hS (q_move rfl) rfl (fun a hF => ?_)
    refine n_q hF hS (q_assign rfl) rfl (fun a hF => ?_)
    refine hK8 _ _ ?_
    refine c_ret ?_
    repeat (first | refine ret_then ?_ | refine ret_blk ?_)
    refine c_ret' (P := Tryd.prog) (fn := Tryd.f116) rfl hF hS (.tmp rfl .nil) ⟨_, rfl, ?_⟩
    exact ⟨by show Value.int _ _ = _; rw [show k = 4 by omega]; rfl, hS.same⟩

theorem rotated_c (x i j k : Nat) (hx : x < 4294967296) (hi : 1 ≤ i ∧ i ≤ 31) (hj : 1 ≤ j ∧ j ≤ 31) (hk : 1 ≤ k ∧ k ≤ 31) (w : World) (H : Froz) (hz : Fz H w) : CallsR Tryd.prog 118 [.int .u32 (x : Int), .int .i64 (i : Int), .int .i64 (j : Int), .int .i64 (k : Int)] w fun v w' => v = .int .u32 (rot3 x i j k : Int) ∧ St ⟨w, H, []⟩ H [] w' := by
  refine calls_start Tryd.func118 rfl Tryd.ntmps118 rfl (fun a hF => ?_)
  have hS := St.start w H hz
  have hS0 := hS
  refine c_seq (fun K1 hK1 => ?_)
  refine c_reg ?_
  refine n_q hF hS (q_assign rfl) rfl (fun a hF => ?_)
  refine hK1 _ _ ?_
  refine c_seq (fun K2 hK2 => ?_)
  refine c_reg ?_
  refine n_q hF hS (q_move rfl) rfl (fun a hF => ?_)
  refine n_q hF hS (q_move rfl) rfl (fun a hF => ?_)
  refine n_q hF hS (q_neg rfl (by omega)) rfl (fun a hF => ?_)
  refine n_l rfl (fun K3 hK3 => l_call en117 hF rfl rfl (RotateLeft32_c x i _ hx hi rfl _ _ hS.fz) (fun v3 w hR a hF => ?_))
  obtain ⟨rfl, hc⟩ := hR
  replace hS := hS.call0 hc
  refine hK3 _ _ ?_
  refine n_q hF hS (q_move rfl) rfl (fun a hF => ?_)
  refine n_q hF hS (q_move rfl) rfl (fun a hF => ?_)
  refine n_q hF hS (q_neg rfl (by omega)) rfl (fun a hF => ?_)
  refine n_l rfl (fun K4 hK4 => l_call en117 hF rfl rfl (RotateLeft32_c x j _ hx hj rfl _ _ hS.fz) (fun v4 w hR a hF => ?_))
  obtain ⟨rfl, hc⟩ := hR
  replace hS := hS.call0 hc
  refine hK4 _ _ ?_
  refine n_q hF hS (q_xor (m := 4294967296) rfl rfl rfl rfl (rotr_lt hx) (rotr_lt hx)) rfl (fun a hF => ?_)
  refine n_q hF hS (q_move rfl) rfl (fun a hF => ?_)
  refine n_q hF hS (q_move rfl) rfl (fun a hF => ?_)
  refine n_q hF hS (q_neg rfl (by omega)) rfl (fun a hF => ?_)
  refine n_l rfl (fun K5 hK5 => l_call en117 hF rfl rfl (RotateLeft32_c x k _ hx hk rfl _ _ hS.fz) (fun v5 w hR a hF => ?_))
  obtain ⟨rfl, hc⟩ := hR
  replace hS := hS.call0 hc
  refine hK5 _ _ ?_
  refine n_q hF hS (q_xor (m := 4294967296) rfl rfl rfl rfl (Nat.xor_lt_two_pow (n := 32) (rotr_lt hx) (rotr_lt hx)) (rotr_lt hx)) rfl (fun a hF => ?_)
  refine n_q hF hS (q_assign rfl) rfl (fun a hF => ?_)
  refine hK2 _ _ ?_
  refine c_ret ?_
  repeat (first | refine ret_then ?_ | refine ret_blk ?_)
  refine c_ret' (P := Tryd.prog) (fn := Tryd.f118) rfl hF hS (.tmp rfl .nil) ⟨_, rfl, ?_⟩
  exact ⟨rfl, hS.same⟩

theorem put_c (b o len c x : Nat) (cs : List Value) (T : TypeId) (hle : len ≤ 8) (ho : o + len ≤ cs.length) (hx : x < 18446744073709551616) (w : World) (H : Froz) (hh : Hand w H [⟨b, cs, T⟩]) :
    CallsR Tryd.prog 100 [.slice (some ⟨b, o, none⟩) len c, .int .u64 (x : Int)] w fun v w' => v = .tuple #[] ∧ St ⟨w, H, [b]⟩ H [⟨b, spl cs o (bc (beB len x)), T⟩] w' := by
  refine calls_start Tryd.func100 rfl Tryd.ntmps100 rfl (fun a hF => ?_)
  have hS : St ⟨w, H, [b]⟩ H [⟨b, cs, T⟩] w := St.startG hh
  refine c_seq (fun K1 hK1 => ?_)
  refine c_reg ?_
  refine n_q hF hS (q_move rfl) rfl (fun a hF => ?_)
  refine n_q hF hS (q_len Tryd.underlying46 rfl rfl) rfl (fun a hF => ?_)
  refine n_q hF hS (q_move rfl) rfl (fun a hF => ?_)
  refine hK1 _ _ ?_
  refine c_block ?_
  refine c_loopL hF [4, 7, 8, 9, 10, 11, 12, 13, 14, 15, 16, 17, 18, 19, 20, 21, 22]
    (fun k : Nat => [(7, .int .i64 (k : Int))])
    (fun k => [⟨b, spl cs (o + (len - k)) (bc ((beB len x).drop (len - k))), T⟩])
    (fun k _ => k ≤ len)
    (fun k => len - k) (0) ⟨rfl, trivial⟩ ((by rw [Nat.sub_zero, List.drop_of_length_le (by rw [beB_length]; exact Nat.le_refl _)]; show St _ _ [⟨b, spl cs (o + len) [], T⟩] _; rw [spl_nil]; exact hS)) (Nat.zero_le _) ?_
  clear hF hS
  intro k a w H hle hF hS hJ
  have hl0 := Le.refl H
  try dsimp only at hF hJ hS
  refine c_seq (fun K2 hK2 => ?_)
  refine c_reg ?_
  refine n_q hF hS (q_lss rfl rfl) rfl (fun a hF => ?_)
  refine hK2 _ _ ?_
  refine c_seq (fun K3 hK3 => ?_)
  refine spd hF (s := 8) rfl (fun hc8 hF => ?_) (fun hc8 hF => ?_)
  · refine c_true hF rfl ?_
    refine wp_skip ?_
    refine hK3 _ _ ?_
    refine c_seq (fun K4 hK4 => ?_)
    refine c_block ?_
    refine c_seq (fun K5 hK5 => ?_)
    refine c_reg ?_
    refine n_q hF hS (q_move rfl) rfl (fun a hF => ?_)
    refine n_q hF hS (q_assign rfl) rfl (fun a hF => ?_)
    refine hK5 _ _ ?_
    refine c_reg ?_
    have hlt : k < len := by omega
    refine n_q hF hS (q_move rfl) rfl (fun a hF => ?_)
    refine n_q hF hS (q_move rfl) rfl (fun a hF => ?_)
    refine n_q hF hS (q_len Tryd.underlying46 rfl rfl) rfl (fun a hF => ?_)
    refine n_q hF hS (q_subI rfl rfl (by omega)) rfl (fun a hF => ?_)
    refine n_q hF hS (q_move rfl) rfl (fun a hF => ?_)
    refine n_q hF hS (q_subI rfl rfl (by omega)) rfl (fun a hF => ?_)
    refine n_q hF hS (q_move rfl) rfl (fun a hF => ?_)
    refine n_q hF hS (q_move rfl) rfl (fun a hF => ?_)
    refine n_q hF hS (q_mulI rfl rfl (by omega)) rfl (fun a hF => ?_)
    refine n_q hF hS (q_shr (s := 8 * k) rfl rfl (show 8 * k ≤ 64 by omega)) rfl (fun a hF => ?_)
    refine n_q hF hS (q_cv8 Tryd.underlying160 Tryd.underlying5 rfl) rfl (fun a hF => ?_)
    refine n_q hF hS (q_indexAddrSO (j := o + (len - 1 - k)) Tryd.underlying46 ty5 rfl rfl (by omega) (by omega)) rfl (fun a hF => ?_)
    refine n_l rfl (fun K6 hK6 => l_store (vs := [_]) ty5 hF hS rfl rfl (i := 0) rfl rfl rfl (by rw [Nat.ble_eq, spl_length (by simp [bc_length, beB_length]; omega)]; omega) rfl (fun a w hF hS => hK6 _ _ ?_))
    refine hK4 _ _ ?_
    refine c_reg ?_
    refine n_q hF hS (q_addI rfl rfl (by omega)) rfl (fun a hF => ?_)
    refine n_q hF hS (q_move rfl) rfl (fun a hF => ?_)
    exact ⟨k + 1, _, (by show len - (k + 1) < len - k; omega), hl0, hF.back ⟨rfl, trivial⟩ rfl (by repeat first | exact Ext.refl _ _ | refine Ext.rem' rfl ?_ | refine Ext.push rfl ?_), (by
        have e1 : o + (len - k) = (o + (len - 1 - k)) + 1 := by omega
        have e2 : (beB len x).drop (len - (k + 1)) = UInt8.ofNat (x / 2 ^ (8 * k)) :: (beB len x).drop (len - k) := by
          rw [List.drop_eq_getElem_cons (by rw [beB_length]; omega), show len - (k + 1) + 1 = len - k by omega]
          simp only [beB, List.getElem_map, List.getElem_range, show len - 1 - (len - (k + 1)) = k by omega]
        have hS' := hS
        dsimp only [List.set] at hS'
        rw [e1, spl_cons (by simp [bc_length, beB_length]; omega)] at hS'
        rw [e2, show o + (len - (k + 1)) = o + (len - 1 - k) by omega]
        show St _ _ [⟨b, spl cs (o + (len - 1 - k)) (.int .u8 ((UInt8.ofNat (x / 2 ^ (8 * k))).toNat : Int) :: bc ((beB len x).drop (len - k))), T⟩] _
        rw [show (UInt8.ofNat (x / 2 ^ (8 * k))).toNat = x / 2 ^ (8 * k) % 256 from UInt8.toNat_ofNat]
        exact hS'), (by omega)⟩
  · refine c_false hF rfl ?_
    refine c_exit ?_
    repeat (first | refine ex_then ?_ | refine ex_blk ?_)
    refine c_norm (P := Tryd.prog) (fn := Tryd.f100) rfl hF hS .nil ⟨_, rfl, ?_⟩
    have hk : k = len := by omega
    subst hk
    rw [Nat.sub_self, List.drop_zero] at hS
    exact ⟨rfl, hS.down⟩
end Go.Proofs.YtneokajhmonpaaaDoor
namespace Go.Proofs.YtneokajhmonpaaaDoor
open Go Go.RowKit Go.W
set_option maxRecDepth 10000
namespace T8
theorem en116 : enS Tryd.prog 116 = true := by kernel_rfl
theorem en117 : enS Tryd.prog 117 = true := by kernel_rfl
theorem en118 : enS Tryd.prog 118 = true := by kernel_rfl
theorem ty5 : tyS Tryd.prog 5 = some (false, 1) := by kernel_rfl
theorem ty162 : tyS Tryd.prog 162 = some (false, 1) := by kernel_rfl
theorem ty164 : tyS Tryd.prog 164 = some (true, 8) := by kernel_rfl
theorem zr164 : zrS Tryd.prog 164 = some [.int .u32 0, .int .u32 0, .int .u32 0, .int .u32 0, .int .u32 0, .int .u32 0, .int .u32 0, .int .u32 0] := by kernel_rfl
theorem zr188 : zrS Tryd.prog 188 = some (List.replicate 64 (.int .u32 0)) := by kernel_rfl
theorem mo : Tryd.prog.follows .mixedOrders = true := by kernel_rfl
end T8
open T8

set_option maxHeartbeats 1600000 in
theorem absorb_c (b : Nat) (s : V8) (bs : List UInt8) (a : Option Addr) (n c : Nat) (T : TypeId) (hs : s.Ok) (hn : n = 64) (hc : n ≤ c) (w : World) (H : Froz) (hh : Hand w H [⟨b, wc s.l, T⟩]) (hg : Gl 0 1 H) (hr : RdS H a n 1 (bc bs)) :
    CallsR Tryd.prog 99 [.pointer (some ⟨b, 0, none⟩), .slice a n c] w fun v w' => v = .tuple #[] ∧ St ⟨w, H, [b]⟩ H [⟨b, wc (absorbV s bs).l, T⟩] w' := by
  refine calls_start Tryd.func99 rfl Tryd.ntmps99 rfl (fun a hF => ?_)
  have hS : St ⟨w, H, [b]⟩ H [⟨b, wc s.l, T⟩] w := St.startG hh
  have hbl := hr.bytes
  refine c_seq (fun K1 hK1 => ?_)
  refine c_reg ?_
  refine n_l rfl (fun K2 hK2 => l_alloc hF hS zr188 rfl (fun a w b1 hF hS => hK2 _ _ ?_))
  refine hK1 _ _ ?_
  refine c_seq (fun K3 hK3 => ?_)
  refine c_seq (fun K4 hK4 => ?_)
  refine c_reg ?_
  refine n_q hF hS (q_move rfl) rfl (fun a hF => ?_)
  refine hK4 _ _ ?_
  refine c_block ?_
  refine c_loopL hF [5, 14, 15, 16, 17, 18, 19, 20, 21, 22, 23, 24]
    (fun k : Nat => [(14, .int .i64 (k : Int))])
    (fun k => [⟨b1, wc (sch1 bs k), 188⟩, ⟨b, wc s.l, T⟩])
    (fun k _ => k ≤ 16)
    (fun k => 16 - k) (0) ⟨rfl, trivial⟩ ((by show St _ _ [⟨_, wc (List.replicate 64 0), _⟩, _] _; rw [show wc (List.replicate 64 0) = List.replicate 64 (.int .u32 0) from by simp [wc]]; exact hS)) (Nat.zero_le _) ?_
  clear hF hS
  intro k a w H hle hF hS hJ
  replace hr := hr.mono hle
  replace hg := hg.mono hle
  have hl0 := Le.refl H
  try dsimp only at hF hJ hS
  refine c_seq (fun K5 hK5 => ?_)
  refine c_reg ?_
  refine n_q hF hS (q_lss rfl rfl) rfl (fun a hF => ?_)
  refine hK5 _ _ ?_
  refine c_seq (fun K6 hK6 => ?_)
  refine spd hF (s := 15) rfl (fun hc15 hF => ?_) (fun hc15 hF => ?_)
  · refine c_true hF rfl ?_
    refine wp_skip ?_
    refine hK6 _ _ ?_
    refine c_seq (fun K7 hK7 => ?_)
    refine c_block ?_
    refine c_seq (fun K8 hK8 => ?_)
    refine c_reg ?_
    refine n_q hF hS (q_move rfl) rfl (fun a hF => ?_)
    refine n_q hF hS (q_assign rfl) rfl (fun a hF => ?_)
    refine hK8 _ _ ?_
    refine c_reg ?_
    have hlt : k < 16 := by omega
    have hr2 := hr.cutB (c := c) (l := 4 * k) (h := n) (by omega) (by omega) hc
    rw [List.take_of_length_le (by omega)] at hr2
    refine n_q hF hS (q_move rfl) rfl (fun a hF => ?_)
    refine n_q hF hS (q_move rfl) rfl (fun a hF => ?_)
    refine n_q hF hS (q_move rfl) rfl (fun a hF => ?_)
    refine n_q hF hS (q_mulI rfl rfl (by omega)) rfl (fun a hF => ?_)
    refine n_q hF hS (q_slice (n := n) (c := c) (m := c) (h := n) (l := 4 * k) Tryd.underlying46 ty5 rfl rfl ⟨rfl, rfl⟩ ⟨_, rfl, by omega⟩) rfl (fun a hF => ?_)
    refine n_l rfl (fun K9 hK9 => l_call en116 hF rfl rfl (word_c _ _ _ _ (by omega) (by omega) _ _ hS.fz hr2) (fun v9 w hR a hF => ?_))
    obtain ⟨rfl, hc⟩ := hR
    replace hS := hS.call0 hc
    refine hK9 _ _ ?_
    refine n_q hF hS (q_indexAddrAj (j := k) Tryd.underlying188 ty162 rfl rfl (by omega) (by omega)) rfl (fun a hF => ?_)
    refine n_l rfl (fun K10 hK10 => l_store (vs := [_]) ty162 hF hS rfl rfl (i := 0) rfl rfl rfl (by rw [Nat.ble_eq, wc_length, sch1_length]; omega) rfl (fun a w hF hS => hK10 _ _ ?_))
    refine hK7 _ _ ?_
    refine c_reg ?_
    refine n_q hF hS (q_addI rfl rfl (by omega)) rfl (fun a hF => ?_)
    refine n_q hF hS (q_move rfl) rfl (fun a hF => ?_)
    exact ⟨k + 1, _, (by show 16 - (k + 1) < 16 - k; omega), hl0, hF.back ⟨rfl, trivial⟩ rfl (by repeat first | exact Ext.refl _ _ | refine Ext.rem' rfl ?_ | refine Ext.push rfl ?_), (by dsimp only [List.set] at hS; rw [wc_spl2 (by rw [sch1_length]; omega)] at hS; exact hS), (by omega)⟩
  · refine c_false hF rfl ?_
    refine c_exit ?_
    refine hK3 _ _ ?_
    refine c_seq (fun K11 hK11 => ?_)
    refine c_seq (fun K12 hK12 => ?_)
    refine c_reg ?_
    refine n_q hF hS (q_assign rfl) rfl (fun a hF => ?_)
    refine hK12 _ _ ?_
    refine c_block ?_
    refine c_loopL hF [6, 7, 8, 25, 26, 27, 28, 29, 30, 31, 32, 33, 34, 35, 36, 37, 38, 39, 40, 41, 42, 43, 44, 45, 46, 47, 48, 49, 50, 51, 52, 53, 54, 55, 56, 57, 58, 59, 60, 61, 62, 63, 64, 65]
      (fun k : Nat => [(6, .int .i64 ((16 + k : Nat) : Int))])
      (fun k => [⟨b1, wc (sch2 bs k), 188⟩, ⟨b, wc s.l, T⟩])
      (fun k _ => k ≤ 48)
      (fun k => 48 - k) (0) ⟨rfl, trivial⟩ ((by rw [show sch2 bs 0 = sch1 bs k by rw [show k = 16 by omega]; rfl]; exact hS)) (Nat.zero_le _) ?_
    clear hF hS
    intro k a w H hle hF hS hJ
    replace hr := hr.mono hle
    replace hg := hg.mono hle
    have hl1 := Le.refl H
    try dsimp only at hF hJ hS
    refine c_seq (fun K13 hK13 => ?_)
    refine c_seq (fun K14 hK14 => ?_)
    refine c_reg ?_
    refine n_q hF hS (q_move rfl) rfl (fun a hF => ?_)
    refine n_q hF hS (q_lss rfl rfl) rfl (fun a hF => ?_)
    refine hK14 _ _ ?_
    refine spd hF (s := 26) rfl (fun hc26 hF => ?_) (fun hc26 hF => ?_)
    · refine c_true hF rfl ?_
      refine wp_skip ?_
      refine hK13 _ _ ?_
      refine c_seq (fun K15 hK15 => ?_)
      refine c_block ?_
      refine c_seq (fun K16 hK16 => ?_)
      have hlt : k < 48 := by omega
      have hw := sch2_lt bs k
      have hx := gt_lt hw (k + 1)
      have hy := gt_lt hw (k + 14)
      refine r_start (fun L => L) [] mo hS (fun w hS => ?_)
      refine r_q (i := 0) rfl (by kernel_rfl) (by kernel_rfl) rfl (by kernel_rfl) (fun _ _ _ _ h => h) hF hS (q_move rfl) rfl (fun a hF => ?_)
      refine r_q (i := 1) rfl (by kernel_rfl) (by kernel_rfl) rfl (by kernel_rfl) (fun _ _ _ _ h => h) hF hS (q_subI rfl rfl (by omega)) rfl (fun a hF => ?_)
      refine r_q (i := 2) rfl (by kernel_rfl) (by kernel_rfl) rfl (by kernel_rfl) (fun _ _ _ _ h => h) hF hS (q_indexAddrAj (j := k + 1) Tryd.underlying188 ty162 rfl rfl (by omega) (by omega)) rfl (fun a hF => ?_)
      refine r_q (i := 3) rfl (by kernel_rfl) (by kernel_rfl) rfl (by kernel_rfl) (fun _ _ _ _ h => h) hF hS (q_load ty162 rfl (i := 0) rfl (by rw [Nat.ble_eq, wc_length, sch2_length]; omega) rfl (show ldv false 1 (wc (sch2 bs k)) (k + 1) = some (.int .u32 (gt (sch2 bs k) (k + 1) : Int)) from wc_ld2 (by rw [sch2_length]; omega))) rfl (fun a hF => ?_)
      refine r_q (i := 4) rfl (by kernel_rfl) (by kernel_rfl) rfl (by kernel_rfl) (fun _ _ _ _ h => h) hF hS (q_move rfl) rfl (fun a hF => ?_)
      refine r_q (i := 5) rfl (by kernel_rfl) (by kernel_rfl) rfl (by kernel_rfl) (fun _ _ _ _ h => h) hF hS (q_subI rfl rfl (by omega)) rfl (fun a hF => ?_)
      refine r_q (i := 6) rfl (by kernel_rfl) (by kernel_rfl) rfl (by kernel_rfl) (fun _ _ _ _ h => h) hF hS (q_indexAddrAj (j := k + 14) Tryd.underlying188 ty162 rfl rfl (by omega) (by omega)) rfl (fun a hF => ?_)
      refine r_q (i := 7) rfl (by kernel_rfl) (by kernel_rfl) rfl (by kernel_rfl) (fun _ _ _ _ h => h) hF hS (q_load ty162 rfl (i := 0) rfl (by rw [Nat.ble_eq, wc_length, sch2_length]; omega) rfl (show ldv false 1 (wc (sch2 bs k)) (k + 14) = some (.int .u32 (gt (sch2 bs k) (k + 14) : Int)) from wc_ld2 (by rw [sch2_length]; omega))) rfl (fun a hF => ?_)
      refine r_q (i := 8) rfl (by kernel_rfl) (by kernel_rfl) rfl (by kernel_rfl) (fun _ _ _ _ h => h) hF hS (q_assign rfl) rfl (fun a hF => ?_)
      refine r_q (i := 9) rfl (by kernel_rfl) (by kernel_rfl) rfl (by kernel_rfl) (fun _ _ _ _ h => h) hF hS (q_assign rfl) rfl (fun a hF => ?_)
      refine r_done (by kernel_rfl) ?_
      refine hK16 _ _ ?_
      refine r_start (fun L => L) [29] mo hS (fun w hS => ?_)
      refine r_q (i := 0) rfl (by kernel_rfl) (by kernel_rfl) rfl (by kernel_rfl) (fun _ _ _ _ h => h) hF hS (q_move rfl) rfl (fun a hF => ?_)
      refine r_q (i := 1) rfl (by kernel_rfl) (by kernel_rfl) rfl (by kernel_rfl) (fun _ _ _ _ h => h) hF hS (q_move rfl) rfl (fun a hF => ?_)
      refine r_q (i := 2) rfl (by kernel_rfl) (by kernel_rfl) rfl (by kernel_rfl) (fun _ _ _ _ h => h) hF hS (q_subI rfl rfl (by omega)) rfl (fun a hF => ?_)
      refine r_q (i := 3) rfl (by kernel_rfl) (by kernel_rfl) rfl (by kernel_rfl) (fun _ _ _ _ h => h) hF hS (q_indexAddrAj (j := k) Tryd.underlying188 ty162 rfl rfl (by omega) (by omega)) rfl (fun a hF => ?_)
      refine r_q (i := 4) rfl (by kernel_rfl) (by kernel_rfl) rfl (by kernel_rfl) (fun _ _ _ _ h => h) hF hS (q_load ty162 rfl (i := 0) rfl (by rw [Nat.ble_eq, wc_length, sch2_length]; omega) rfl (show ldv false 1 (wc (sch2 bs k)) (k) = some (.int .u32 (gt (sch2 bs k) (k) : Int)) from wc_ld2 (by rw [sch2_length]; omega))) rfl (fun a hF => ?_)
      refine r_q (i := 5) rfl (by kernel_rfl) (by kernel_rfl) rfl (by kernel_rfl) (fun _ _ _ _ h => h) hF hS (q_move rfl) rfl (fun a hF => ?_)
      refine r_q (i := 7) rfl (by kernel_rfl) (by kernel_rfl) rfl (by kernel_rfl) (fun _ _ _ _ h => h) hF hS (q_move rfl) rfl (fun a hF => ?_)
      refine r_q (i := 10) rfl (by kernel_rfl) (by kernel_rfl) rfl (by kernel_rfl) (fun _ _ _ _ h => h) hF hS (q_move rfl) rfl (fun a hF => ?_)
      refine r_q (i := 11) rfl (by kernel_rfl) (by kernel_rfl) rfl (by kernel_rfl) (fun _ _ _ _ h => h) hF hS (q_shrC (m := 8) rfl rfl (by decide) rfl) rfl (fun a hF => ?_)
      refine r_q (i := 14) rfl (by kernel_rfl) (by kernel_rfl) rfl (by kernel_rfl) (fun _ _ _ _ h => h) hF hS (q_move rfl) rfl (fun a hF => ?_)
      refine r_q (i := 15) rfl (by kernel_rfl) (by kernel_rfl) rfl (by kernel_rfl) (fun _ _ _ _ h => h) hF hS (q_subI rfl rfl (by omega)) rfl (fun a hF => ?_)
      refine r_q (i := 16) rfl (by kernel_rfl) (by kernel_rfl) rfl (by kernel_rfl) (fun _ _ _ _ h => h) hF hS (q_indexAddrAj (j := k + 9) Tryd.underlying188 ty162 rfl rfl (by omega) (by omega)) rfl (fun a hF => ?_)
      refine r_q (i := 17) rfl (by kernel_rfl) (by kernel_rfl) rfl (by kernel_rfl) (fun _ _ _ _ h => h) hF hS (q_load ty162 rfl (i := 0) rfl (by rw [Nat.ble_eq, wc_length, sch2_length]; omega) rfl (show ldv false 1 (wc (sch2 bs k)) (k + 9) = some (.int .u32 (gt (sch2 bs k) (k + 9) : Int)) from wc_ld2 (by rw [sch2_length]; omega))) rfl (fun a hF => ?_)
      refine r_q (i := 19) rfl (by kernel_rfl) (by kernel_rfl) rfl (by kernel_rfl) (fun _ _ _ _ h => h) hF hS (q_move rfl) rfl (fun a hF => ?_)
      refine r_q (i := 21) rfl (by kernel_rfl) (by kernel_rfl) rfl (by kernel_rfl) (fun _ _ _ _ h => h) hF hS (q_move rfl) rfl (fun a hF => ?_)
      refine r_q (i := 24) rfl (by kernel_rfl) (by kernel_rfl) rfl (by kernel_rfl) (fun _ _ _ _ h => h) hF hS (q_move rfl) rfl (fun a hF => ?_)
      refine r_q (i := 25) rfl (by kernel_rfl) (by kernel_rfl) rfl (by kernel_rfl) (fun _ _ _ _ h => h) hF hS (q_shrC (m := 1024) rfl rfl (by decide) rfl) rfl (fun a hF => ?_)
      refine r_one (i := 6) (by kernel_rfl) ?_
      have hsub := hS.sub
      refine r_li rfl rfl (fun K17 hK17 => l_call en117 hF rfl rfl (RotateLeft32_c (gt (sch2 bs k) (k + 1)) 7 _ hx (by decide) rfl _ _ hS.fz) (fun v17 w hR a hF => ?_))
      obtain ⟨rfl, hc⟩ := hR
      replace hS := hS.call0 hc
      refine hK17 _ _ _ hS (fun _ h => h) ?_
      refine r_one (i := 8) (by kernel_rfl) ?_
      have hsub := hS.sub
      refine r_li rfl rfl (fun K18 hK18 => l_call en117 hF rfl rfl (RotateLeft32_c (gt (sch2 bs k) (k + 1)) 18 _ hx (by decide) rfl _ _ hS.fz) (fun v18 w hR a hF => ?_))
      obtain ⟨rfl, hc⟩ := hR
      replace hS := hS.call0 hc
      refine hK18 _ _ _ hS (fun _ h => h) ?_
      refine r_q (i := 9) rfl (by kernel_rfl) (by kernel_rfl) rfl (by kernel_rfl) (fun _ _ _ _ h => h) hF hS (q_xor (m := 4294967296) rfl rfl rfl rfl (rotr_lt hx) (rotr_lt hx)) rfl (fun a hF => ?_)
      refine r_q (i := 12) rfl (by kernel_rfl) (by kernel_rfl) rfl (by kernel_rfl) (fun _ _ _ _ h => h) hF hS (q_xor (m := 4294967296) rfl rfl rfl rfl (Nat.xor_lt_two_pow (n := 32) (rotr_lt hx) (rotr_lt hx)) (Nat.lt_of_le_of_lt (Nat.div_le_self _ _) hx)) rfl (fun a hF => ?_)
      refine r_q (i := 13) rfl (by kernel_rfl) (by kernel_rfl) rfl (by kernel_rfl) (fun _ _ _ _ h => h) hF hS (q_add32 rfl rfl) rfl (fun a hF => ?_)
      refine r_q (i := 18) rfl (by kernel_rfl) (by kernel_rfl) rfl (by kernel_rfl) (fun _ _ _ _ h => h) hF hS (q_add32 rfl rfl) rfl (fun a hF => ?_)
      refine r_one (i := 20) (by kernel_rfl) ?_
      have hsub := hS.sub
      refine r_li rfl rfl (fun K19 hK19 => l_call en117 hF rfl rfl (RotateLeft32_c (gt (sch2 bs k) (k + 14)) 17 _ hy (by decide) rfl _ _ hS.fz) (fun v19 w hR a hF => ?_))
      obtain ⟨rfl, hc⟩ := hR
      replace hS := hS.call0 hc
      refine hK19 _ _ _ hS (fun _ h => h) ?_
      refine r_one (i := 22) (by kernel_rfl) ?_
      have hsub := hS.sub
      refine r_li rfl rfl (fun K20 hK20 => l_call en117 hF rfl rfl (RotateLeft32_c (gt (sch2 bs k) (k + 14)) 19 _ hy (by decide) rfl _ _ hS.fz) (fun v20 w hR a hF => ?_))
      obtain ⟨rfl, hc⟩ := hR
      replace hS := hS.call0 hc
      refine hK20 _ _ _ hS (fun _ h => h) ?_
      refine r_q (i := 23) rfl (by kernel_rfl) (by kernel_rfl) rfl (by kernel_rfl) (fun _ _ _ _ h => h) hF hS (q_xor (m := 4294967296) rfl rfl rfl rfl (rotr_lt hy) (rotr_lt hy)) rfl (fun a hF => ?_)
      refine r_q (i := 26) rfl (by kernel_rfl) (by kernel_rfl) rfl (by kernel_rfl) (fun _ _ _ _ h => h) hF hS (q_xor (m := 4294967296) rfl rfl rfl rfl (Nat.xor_lt_two_pow (n := 32) (rotr_lt hy) (rotr_lt hy)) (Nat.lt_of_le_of_lt (Nat.div_le_self _ _) hy)) rfl (fun a hF => ?_)
      refine r_q (i := 27) rfl (by kernel_rfl) (by kernel_rfl) rfl (by kernel_rfl) (fun _ _ _ _ h => h) hF hS (q_add32 rfl rfl) rfl (fun a hF => ?_)
      refine r_q (i := 28) rfl (by kernel_rfl) (by kernel_rfl) rfl (by kernel_rfl) (fun _ _ _ _ h => h) hF hS (q_indexAddrAj (j := k + 16) Tryd.underlying188 ty162 rfl rfl (by omega) (by omega)) rfl (fun a hF => ?_)
      refine r_one (i := 29) (by kernel_rfl) ?_
      refine r_lL rfl rfl rfl (fun K21 hK21 => l_store (vs := [_]) ty162 hF hS rfl rfl (i := 0) rfl rfl rfl (by rw [Nat.ble_eq, wc_length, sch2_length]; omega) rfl (fun a w hF hS => hK21 _ _ ?_))
      refine r_done (by kernel_rfl) ?_
      refine hK15 _ _ ?_
      refine c_reg ?_
      refine n_q hF hS (q_move rfl) rfl (fun a hF => ?_)
      refine n_q hF hS (q_addI rfl rfl (by omega)) rfl (fun a hF => ?_)
      refine n_q hF hS (q_assign rfl) rfl (fun a hF => ?_)
      exact ⟨k + 1, _, (by show 48 - (k + 1) < 48 - k; omega), hl1, hF.back ⟨rfl, trivial⟩ rfl (by repeat first | exact Ext.refl _ _ | refine Ext.rem' rfl ?_ | refine Ext.push rfl ?_), (by dsimp only [List.set] at hS; rw [wc_spl2 (by rw [sch2_length]; omega)] at hS; exact hS), (by omega)⟩
    · refine c_false hF rfl ?_
      refine c_exit ?_
      refine hK11 _ _ ?_
      refine c_seq (fun K22 hK22 => ?_)
      refine c_reg ?_
      refine n_q hF hS (q_move rfl) rfl (fun a hF => ?_)
      refine n_q hF hS (q_nilCheck rfl) rfl (fun a hF => ?_)
      refine n_q hF hS (q_load0 ty164 rfl (i := 1) rfl rfl rfl) rfl (fun a hF => ?_)
      refine n_l rfl (fun K23 hK23 => l_alloc hF hS zr164 rfl (fun a w b2 hF hS => hK23 _ _ ?_))
      refine n_l rfl (fun K24 hK24 => l_store0A ty164 hF hS rfl rfl (i := 0) rfl rfl rfl rfl (fun a w hF hS => hK24 _ _ ?_))
      refine hK22 _ _ ?_
      refine c_seq (fun K25 hK25 => ?_)
      refine c_seq (fun K26 hK26 => ?_)
      refine c_reg ?_
      refine n_q hF hS (q_move rfl) rfl (fun a hF => ?_)
      refine hK26 _ _ ?_
      refine c_block ?_
      refine c_loopL hF [10, 11, 12, 69, 70, 71, 72, 73, 74, 75, 76, 77, 78, 79, 80, 81, 82, 83, 84, 85, 86, 87, 88, 89, 90, 91, 92, 93, 94, 95, 96, 97, 98, 99, 100, 101, 102, 103, 104, 105, 106, 107, 108, 109, 110, 111, 112, 113, 114, 115, 116, 117, 118, 119, 120, 121, 122, 123, 124, 125, 126, 127, 128]
        (fun t : Nat => [(69, .int .i64 (t : Int))])
        (fun t => [⟨b2, wc (rnds (sch2 bs 48) s t).l, 164⟩, ⟨b1, wc (sch2 bs 48), 188⟩, ⟨b, wc s.l, T⟩])
        (fun t _ => t ≤ 64)
        (fun t => 64 - t) (0) ⟨rfl, trivial⟩ ((by rw [show k = 48 by omega] at hS; exact hS)) (Nat.zero_le _) ?_
      clear hF hS
      intro t a w H hle hF hS hJ
      replace hr := hr.mono hle
      replace hg := hg.mono hle
      have hl2 := Le.refl H
      try dsimp only at hF hJ hS
      have hJt := hJ
      have hv := rnds_ok hs (sch2 bs 48) t
      have hnx : rnds (sch2 bs 48) s (t + 1) = rnd (rnds (sch2 bs 48) s t) (gt numsL t) (gt (sch2 bs 48) t) := rfl
      obtain ⟨v, hvd⟩ : ∃ v, v = rnds (sch2 bs 48) s t := ⟨_, rfl⟩
      rw [← hvd] at hv hS hnx
      refine c_seq (fun K27 hK27 => ?_)
      refine c_reg ?_
      refine n_q hF hS (q_lss rfl rfl) rfl (fun a hF => ?_)
      refine hK27 _ _ ?_
      refine c_seq (fun K28 hK28 => ?_)
      refine spd hF (s := 70) rfl (fun hc70 hF => ?_) (fun hc70 hF => ?_)
      · refine c_true hF rfl ?_
        refine wp_skip ?_
        refine hK28 _ _ ?_
        refine c_seq (fun K29 hK29 => ?_)
        refine c_block ?_
        refine c_seq (fun K30 hK30 => ?_)
        refine c_reg ?_
        refine n_q hF hS (q_move rfl) rfl (fun a hF => ?_)
        refine n_q hF hS (q_assign rfl) rfl (fun a hF => ?_)
        refine hK30 _ _ ?_
        refine c_seq (fun K31 hK31 => ?_)
        have hlt : t < 64 := by omega
        refine r_start (fun L => L) [] mo hS (fun w hS => ?_)
        refine r_q (i := 0) rfl (by kernel_rfl) (by kernel_rfl) rfl (by kernel_rfl) (fun _ _ _ _ h => h) hF hS (q_indexAddrAj (j := 7) Tryd.underlying164 ty162 rfl rfl (by decide) (by decide)) rfl (fun a hF => ?_)
        refine r_q (i := 1) rfl (by kernel_rfl) (by kernel_rfl) rfl (by kernel_rfl) (fun _ _ _ _ h => h) hF hS (q_load ty162 rfl (i := 0) rfl rfl rfl (show ldv false 1 (wc v.l) 7 = some (.int .u32 (v.h : Int)) from rfl)) rfl (fun a hF => ?_)
        refine r_q (i := 2) rfl (by kernel_rfl) (by kernel_rfl) rfl (by kernel_rfl) (fun _ _ _ _ h => h) hF hS (q_indexAddrAj (j := 4) Tryd.underlying164 ty162 rfl rfl (by decide) (by decide)) rfl (fun a hF => ?_)
        refine r_q (i := 3) rfl (by kernel_rfl) (by kernel_rfl) rfl (by kernel_rfl) (fun _ _ _ _ h => h) hF hS (q_load ty162 rfl (i := 0) rfl rfl rfl (show ldv false 1 (wc v.l) 4 = some (.int .u32 (v.e : Int)) from rfl)) rfl (fun a hF => ?_)
        refine r_q (i := 6) rfl (by kernel_rfl) (by kernel_rfl) rfl (by kernel_rfl) (fun _ _ _ _ h => h) hF hS (q_indexAddrAj (j := 6) Tryd.underlying164 ty162 rfl rfl (by decide) (by decide)) rfl (fun a hF => ?_)
        refine r_q (i := 7) rfl (by kernel_rfl) (by kernel_rfl) rfl (by kernel_rfl) (fun _ _ _ _ h => h) hF hS (q_load ty162 rfl (i := 0) rfl rfl rfl (show ldv false 1 (wc v.l) 6 = some (.int .u32 (v.g : Int)) from rfl)) rfl (fun a hF => ?_)
        refine r_q (i := 8) rfl (by kernel_rfl) (by kernel_rfl) rfl (by kernel_rfl) (fun _ _ _ _ h => h) hF hS (q_indexAddrAj (j := 4) Tryd.underlying164 ty162 rfl rfl (by decide) (by decide)) rfl (fun a hF => ?_)
        refine r_q (i := 9) rfl (by kernel_rfl) (by kernel_rfl) rfl (by kernel_rfl) (fun _ _ _ _ h => h) hF hS (q_load ty162 rfl (i := 0) rfl rfl rfl (show ldv false 1 (wc v.l) 4 = some (.int .u32 (v.e : Int)) from rfl)) rfl (fun a hF => ?_)
        refine r_q (i := 10) rfl (by kernel_rfl) (by kernel_rfl) rfl (by kernel_rfl) (fun _ _ _ _ h => h) hF hS (q_indexAddrAj (j := 5) Tryd.underlying164 ty162 rfl rfl (by decide) (by decide)) rfl (fun a hF => ?_)
        refine r_q (i := 11) rfl (by kernel_rfl) (by kernel_rfl) rfl (by kernel_rfl) (fun _ _ _ _ h => h) hF hS (q_load ty162 rfl (i := 0) rfl rfl rfl (show ldv false 1 (wc v.l) 5 = some (.int .u32 (v.f : Int)) from rfl)) rfl (fun a hF => ?_)
        refine r_q (i := 12) rfl (by kernel_rfl) (by kernel_rfl) rfl (by kernel_rfl) (fun _ _ _ _ h => h) hF hS (q_indexAddrAj (j := 6) Tryd.underlying164 ty162 rfl rfl (by decide) (by decide)) rfl (fun a hF => ?_)
        refine r_q (i := 13) rfl (by kernel_rfl) (by kernel_rfl) rfl (by kernel_rfl) (fun _ _ _ _ h => h) hF hS (q_load ty162 rfl (i := 0) rfl rfl rfl (show ldv false 1 (wc v.l) 6 = some (.int .u32 (v.g : Int)) from rfl)) rfl (fun a hF => ?_)
        refine r_q (i := 14) rfl (by kernel_rfl) (by kernel_rfl) rfl (by kernel_rfl) (fun _ _ _ _ h => h) hF hS (q_xor (m := 4294967296) rfl rfl rfl rfl (gt_lt hv 5) (gt_lt hv 6)) rfl (fun a hF => ?_)
        refine r_q (i := 15) rfl (by kernel_rfl) (by kernel_rfl) rfl (by kernel_rfl) (fun _ _ _ _ h => h) hF hS (q_and (m := 4294967296) rfl rfl rfl rfl (gt_lt hv 4) (Nat.xor_lt_two_pow (n := 32) (gt_lt hv 5) (gt_lt hv 6))) rfl (fun a hF => ?_)
        refine r_q (i := 16) rfl (by kernel_rfl) (by kernel_rfl) rfl (by kernel_rfl) (fun _ _ _ _ h => h) hF hS (q_xor (m := 4294967296) rfl rfl rfl rfl (gt_lt hv 6) (Nat.lt_of_le_of_lt Nat.and_le_left (gt_lt hv 4))) rfl (fun a hF => ?_)
        refine r_q (i := 18) rfl (by kernel_rfl) (by kernel_rfl) rfl (by kernel_rfl) (fun _ _ _ _ h => h) hF hS (q_move rfl) rfl (fun a hF => ?_)
        refine r_q (i := 19) rfl (by kernel_rfl) (by kernel_rfl) rfl (by kernel_rfl) (fun _ _ _ _ h => h) hF hS (q_indexAddrAj (j := t) Tryd.underlying188 ty162 rfl rfl (by omega) (by omega)) rfl (fun a hF => ?_)
        refine r_q (i := 20) rfl (by kernel_rfl) (by kernel_rfl) rfl (by kernel_rfl) (fun _ _ _ _ h => h) hF hS (q_loadG (cs := wc numsL) (v := .int .u32 (gt numsL t : Int)) ty162 rfl hg.nu (by rw [wc_length]; show t + 1 ≤ 64; omega) rfl (wc_ld2 (by show t < 64; omega))) rfl (fun a hF => ?_)
        refine r_q (i := 22) rfl (by kernel_rfl) (by kernel_rfl) rfl (by kernel_rfl) (fun _ _ _ _ h => h) hF hS (q_move rfl) rfl (fun a hF => ?_)
        refine r_q (i := 23) rfl (by kernel_rfl) (by kernel_rfl) rfl (by kernel_rfl) (fun _ _ _ _ h => h) hF hS (q_indexAddrAj (j := t) Tryd.underlying188 ty162 rfl rfl (by omega) (by omega)) rfl (fun a hF => ?_)
        refine r_q (i := 24) rfl (by kernel_rfl) (by kernel_rfl) rfl (by kernel_rfl) (fun _ _ _ _ h => h) hF hS (q_load ty162 rfl (i := 1) rfl (by rw [Nat.ble_eq, wc_length, sch2_length]; omega) rfl (show ldv false 1 (wc (sch2 bs 48)) t = some (.int .u32 (gt (sch2 bs 48) t : Int)) from wc_ld2 (by rw [sch2_length]; omega))) rfl (fun a hF => ?_)
        refine r_one (i := 4) (by kernel_rfl) ?_
        have hsub := hS.sub
        refine r_li rfl rfl (fun K32 hK32 => l_call en118 hF rfl rfl (rotated_c v.e 6 11 25 (gt_lt hv 4) (by decide) (by decide) (by decide) _ _ hS.fz) (fun v32 w hR a hF => ?_))
        obtain ⟨rfl, hc⟩ := hR
        replace hS := hS.call0 hc
        refine hK32 _ _ _ hS (fun _ h => h) ?_
        refine r_q (i := 5) rfl (by kernel_rfl) (by kernel_rfl) rfl (by kernel_rfl) (fun _ _ _ _ h => h) hF hS (q_add32 rfl rfl) rfl (fun a hF => ?_)
        refine r_q (i := 17) rfl (by kernel_rfl) (by kernel_rfl) rfl (by kernel_rfl) (fun _ _ _ _ h => h) hF hS (q_add32 rfl rfl) rfl (fun a hF => ?_)
        refine r_q (i := 21) rfl (by kernel_rfl) (by kernel_rfl) rfl (by kernel_rfl) (fun _ _ _ _ h => h) hF hS (q_add32 rfl rfl) rfl (fun a hF => ?_)
        refine r_q (i := 25) rfl (by kernel_rfl) (by kernel_rfl) rfl (by kernel_rfl) (fun _ _ _ _ h => h) hF hS (q_add32 rfl rfl) rfl (fun a hF => ?_)
        refine r_q (i := 26) rfl (by kernel_rfl) (by kernel_rfl) rfl (by kernel_rfl) (fun _ _ _ _ h => h) hF hS (q_assign rfl) rfl (fun a hF => ?_)
        refine r_done (by kernel_rfl) ?_
        refine hK31 _ _ ?_
        refine c_seq (fun K33 hK33 => ?_)
        refine r_start (fun L => L) [] mo hS (fun w hS => ?_)
        refine r_q (i := 0) rfl (by kernel_rfl) (by kernel_rfl) rfl (by kernel_rfl) (fun _ _ _ _ h => h) hF hS (q_indexAddrAj (j := 0) Tryd.underlying164 ty162 rfl rfl (by decide) (by decide)) rfl (fun a hF => ?_)
        refine r_q (i := 1) rfl (by kernel_rfl) (by kernel_rfl) rfl (by kernel_rfl) (fun _ _ _ _ h => h) hF hS (q_load ty162 rfl (i := 0) rfl rfl rfl (show ldv false 1 (wc v.l) 0 = some (.int .u32 (v.a : Int)) from rfl)) rfl (fun a hF => ?_)
        refine r_q (i := 3) rfl (by kernel_rfl) (by kernel_rfl) rfl (by kernel_rfl) (fun _ _ _ _ h => h) hF hS (q_indexAddrAj (j := 0) Tryd.underlying164 ty162 rfl rfl (by decide) (by decide)) rfl (fun a hF => ?_)
        refine r_q (i := 4) rfl (by kernel_rfl) (by kernel_rfl) rfl (by kernel_rfl) (fun _ _ _ _ h => h) hF hS (q_load ty162 rfl (i := 0) rfl rfl rfl (show ldv false 1 (wc v.l) 0 = some (.int .u32 (v.a : Int)) from rfl)) rfl (fun a hF => ?_)
        refine r_q (i := 5) rfl (by kernel_rfl) (by kernel_rfl) rfl (by kernel_rfl) (fun _ _ _ _ h => h) hF hS (q_indexAddrAj (j := 1) Tryd.underlying164 ty162 rfl rfl (by decide) (by decide)) rfl (fun a hF => ?_)
        refine r_q (i := 6) rfl (by kernel_rfl) (by kernel_rfl) rfl (by kernel_rfl) (fun _ _ _ _ h => h) hF hS (q_load ty162 rfl (i := 0) rfl rfl rfl (show ldv false 1 (wc v.l) 1 = some (.int .u32 (v.b : Int)) from rfl)) rfl (fun a hF => ?_)
        refine r_q (i := 7) rfl (by kernel_rfl) (by kernel_rfl) rfl (by kernel_rfl) (fun _ _ _ _ h => h) hF hS (q_and (m := 4294967296) rfl rfl rfl rfl (gt_lt hv 0) (gt_lt hv 1)) rfl (fun a hF => ?_)
        refine r_q (i := 8) rfl (by kernel_rfl) (by kernel_rfl) rfl (by kernel_rfl) (fun _ _ _ _ h => h) hF hS (q_indexAddrAj (j := 2) Tryd.underlying164 ty162 rfl rfl (by decide) (by decide)) rfl (fun a hF => ?_)
        refine r_q (i := 9) rfl (by kernel_rfl) (by kernel_rfl) rfl (by kernel_rfl) (fun _ _ _ _ h => h) hF hS (q_load ty162 rfl (i := 0) rfl rfl rfl (show ldv false 1 (wc v.l) 2 = some (.int .u32 (v.c : Int)) from rfl)) rfl (fun a hF => ?_)
        refine r_q (i := 10) rfl (by kernel_rfl) (by kernel_rfl) rfl (by kernel_rfl) (fun _ _ _ _ h => h) hF hS (q_indexAddrAj (j := 0) Tryd.underlying164 ty162 rfl rfl (by decide) (by decide)) rfl (fun a hF => ?_)
        refine r_q (i := 11) rfl (by kernel_rfl) (by kernel_rfl) rfl (by kernel_rfl) (fun _ _ _ _ h => h) hF hS (q_load ty162 rfl (i := 0) rfl rfl rfl (show ldv false 1 (wc v.l) 0 = some (.int .u32 (v.a : Int)) from rfl)) rfl (fun a hF => ?_)
        refine r_q (i := 12) rfl (by kernel_rfl) (by kernel_rfl) rfl (by kernel_rfl) (fun _ _ _ _ h => h) hF hS (q_indexAddrAj (j := 1) Tryd.underlying164 ty162 rfl rfl (by decide) (by decide)) rfl (fun a hF => ?_)
        refine r_q (i := 13) rfl (by kernel_rfl) (by kernel_rfl) rfl (by kernel_rfl) (fun _ _ _ _ h => h) hF hS (q_load ty162 rfl (i := 0) rfl rfl rfl (show ldv false 1 (wc v.l) 1 = some (.int .u32 (v.b : Int)) from rfl)) rfl (fun a hF => ?_)
        refine r_q (i := 14) rfl (by kernel_rfl) (by kernel_rfl) rfl (by kernel_rfl) (fun _ _ _ _ h => h) hF hS (q_or (m := 4294967296) rfl rfl rfl rfl (gt_lt hv 0) (gt_lt hv 1)) rfl (fun a hF => ?_)
        refine r_q (i := 15) rfl (by kernel_rfl) (by kernel_rfl) rfl (by kernel_rfl) (fun _ _ _ _ h => h) hF hS (q_and (m := 4294967296) rfl rfl rfl rfl (gt_lt hv 2) (Nat.or_lt_two_pow (n := 32) (gt_lt hv 0) (gt_lt hv 1))) rfl (fun a hF => ?_)
        refine r_q (i := 16) rfl (by kernel_rfl) (by kernel_rfl) rfl (by kernel_rfl) (fun _ _ _ _ h => h) hF hS (q_or (m := 4294967296) rfl rfl rfl rfl (Nat.lt_of_le_of_lt Nat.and_le_left (gt_lt hv 0)) (Nat.lt_of_le_of_lt Nat.and_le_left (gt_lt hv 2))) rfl (fun a hF => ?_)
        refine r_one (i := 2) (by kernel_rfl) ?_
        have hsub := hS.sub
        refine r_li rfl rfl (fun K34 hK34 => l_call en118 hF rfl rfl (rotated_c v.a 2 13 22 (gt_lt hv 0) (by decide) (by decide) (by decide) _ _ hS.fz) (fun v34 w hR a hF => ?_))
        obtain ⟨rfl, hc⟩ := hR
        replace hS := hS.call0 hc
        refine hK34 _ _ _ hS (fun _ h => h) ?_
        refine r_q (i := 17) rfl (by kernel_rfl) (by kernel_rfl) rfl (by kernel_rfl) (fun _ _ _ _ h => h) hF hS (q_add32 rfl rfl) rfl (fun a hF => ?_)
        refine r_q (i := 18) rfl (by kernel_rfl) (by kernel_rfl) rfl (by kernel_rfl) (fun _ _ _ _ h => h) hF hS (q_assign rfl) rfl (fun a hF => ?_)
        refine r_done (by kernel_rfl) ?_
        refine hK33 _ _ ?_
        refine c_seq (fun K35 hK35 => ?_)
        refine r_start (fun L => L) [2] mo hS (fun w hS => ?_)
        refine r_q (i := 0) rfl (by kernel_rfl) (by kernel_rfl) rfl (by kernel_rfl) (fun _ _ _ _ h => h) hF hS (q_sliceA (n := 8) (l := 1) (h := 8) Tryd.underlying164 ty162 rfl rfl ⟨_, rfl, by decide⟩ (by decide)) rfl (fun a hF => ?_)
        refine r_q (i := 1) rfl (by kernel_rfl) (by kernel_rfl) rfl (by kernel_rfl) (fun _ _ _ _ h => h) hF hS (q_sliceA (n := 8) (l := 0) (h := 7) Tryd.underlying164 ty162 rfl ⟨_, rfl, by decide⟩ rfl (by decide)) rfl (fun a hF => ?_)
        refine r_one (i := 2) (by kernel_rfl) ?_
        refine r_lL rfl rfl rfl (fun K36 hK36 => l_copyG (k := 7) (news := wc [v.a, v.b, v.c, v.d, v.e, v.f, v.g]) Tryd.underlying192 ty162 hF hS rfl rfl (i := 0) rfl rfl rfl (by rw [wc_length]; show 0 + 1 * 1 + 7 * 1 ≤ 8; decide) rfl (fun _ => ⟨_, _, rfl, fun j u hj => cell_of_own hS (i := 0) rfl (abs_first hj)⟩) rfl (fun a w hF hS => hK36 _ _ ?_))
        have hcp : spl (wc v.l) (0 + 1 * 1) (wc [v.a, v.b, v.c, v.d, v.e, v.f, v.g]) = wc [v.a, v.a, v.b, v.c, v.d, v.e, v.f, v.g] := rfl
        refine r_done (by kernel_rfl) ?_
        refine hK35 _ _ ?_
        refine c_seq (fun K37 hK37 => ?_)
        refine c_reg ?_
        refine n_q hF hS (q_indexAddrAj (j := 4) Tryd.underlying164 ty162 rfl rfl (by decide) (by decide)) rfl (fun a hF => ?_)
        refine n_q hF hS (q_load ty162 rfl (i := 0) rfl rfl rfl (show ldv false 1 (wc [v.a, v.a, v.b, v.c, v.d, v.e, v.f, v.g]) 4 = some (.int .u32 (v.d : Int)) from rfl)) rfl (fun a hF => ?_)
        refine n_q hF hS (q_move rfl) rfl (fun a hF => ?_)
        refine n_q hF hS (q_add32 rfl rfl) rfl (fun a hF => ?_)
        refine n_q hF hS (q_indexAddrAj (j := 4) Tryd.underlying164 ty162 rfl rfl (by decide) (by decide)) rfl (fun a hF => ?_)
        refine n_l rfl (fun K38 hK38 => l_store (vs := [_]) ty162 hF hS rfl rfl (i := 0) rfl rfl rfl rfl rfl (fun a w hF hS => hK38 _ _ ?_))
        refine hK37 _ _ ?_
        refine c_reg ?_
        refine n_q hF hS (q_move rfl) rfl (fun a hF => ?_)
        refine n_q hF hS (q_move rfl) rfl (fun a hF => ?_)
        refine n_q hF hS (q_add32 rfl rfl) rfl (fun a hF => ?_)
        refine n_q hF hS (q_indexAddrAj (j := 0) Tryd.underlying164 ty162 rfl rfl (by decide) (by decide)) rfl (fun a hF => ?_)
        refine n_l rfl (fun K39 hK39 => l_store (vs := [_]) ty162 hF hS rfl rfl (i := 0) rfl rfl rfl rfl rfl (fun a w hF hS => hK39 _ _ ?_))
        refine hK29 _ _ ?_
        refine c_reg ?_
        refine n_q hF hS (q_addI rfl rfl (by omega)) rfl (fun a hF => ?_)
        refine n_q hF hS (q_move rfl) rfl (fun a hF => ?_)
        exact ⟨t + 1, _, (by show 64 - (t + 1) < 64 - t; omega), hl2, hF.back ⟨rfl, trivial⟩ rfl (by repeat first | exact Ext.refl _ _ | refine Ext.rem' rfl ?_ | refine Ext.push rfl ?_), (by rw [hnx]; exact hS), (by omega)⟩
      · refine c_false hF rfl ?_
        refine c_exit ?_
        refine hK25 _ _ ?_
        refine c_seq (fun K40 hK40 => ?_)
        refine c_reg ?_
        refine n_q hF hS (q_move rfl) rfl (fun a hF => ?_)
        refine hK40 _ _ ?_
        refine c_block ?_
        refine c_loopL hF [13, 129, 130, 131, 132, 133, 134, 135, 136, 137, 138, 139, 140, 141, 142, 143]
          (fun i : Nat => [(129, .int .i64 (i : Int))])
          (fun i => [⟨b2, wc v.l, 164⟩, ⟨b1, wc (sch2 bs 48), 188⟩, ⟨b, wc (addK s.l v.l i), T⟩])
          (fun i _ => i ≤ 8)
          (fun i => 8 - i) (0) ⟨rfl, trivial⟩ ((by rw [addK_zero]; exact hS)) (Nat.zero_le _) ?_
        clear hF hS
        intro i a w H hle hF hS hJ
        replace hr := hr.mono hle
        replace hg := hg.mono hle
        have hl3 := Le.refl H
        try dsimp only at hF hJ hS
        refine c_seq (fun K41 hK41 => ?_)
        refine c_reg ?_
        refine n_q hF hS (q_lss rfl rfl) rfl (fun a hF => ?_)
        refine hK41 _ _ ?_
        refine c_seq (fun K42 hK42 => ?_)
        refine spd hF (s := 130) rfl (fun hc130 hF => ?_) (fun hc130 hF => ?_)
        · refine c_true hF rfl ?_
          refine wp_skip ?_
          refine hK42 _ _ ?_
          refine c_seq (fun K43 hK43 => ?_)
          refine c_block ?_
          refine c_seq (fun K44 hK44 => ?_)
          refine c_reg ?_
          refine n_q hF hS (q_move rfl) rfl (fun a hF => ?_)
          refine n_q hF hS (q_assign rfl) rfl (fun a hF => ?_)
          refine hK44 _ _ ?_
          have hlt : i < 8 := by omega
          refine r_start (fun L => L) [11] mo hS (fun w hS => ?_)
          refine r_q (i := 0) rfl (by kernel_rfl) (by kernel_rfl) rfl (by kernel_rfl) (fun _ _ _ _ h => h) hF hS (q_move rfl) rfl (fun a hF => ?_)
          refine r_q (i := 1) rfl (by kernel_rfl) (by kernel_rfl) rfl (by kernel_rfl) (fun _ _ _ _ h => h) hF hS (q_move rfl) rfl (fun a hF => ?_)
          refine r_q (i := 2) rfl (by kernel_rfl) (by kernel_rfl) rfl (by kernel_rfl) (fun _ _ _ _ h => h) hF hS (q_nilCheck rfl) rfl (fun a hF => ?_)
          refine r_q (i := 3) rfl (by kernel_rfl) (by kernel_rfl) rfl (by kernel_rfl) (fun _ _ _ _ h => h) hF hS (q_indexAddrAj (j := i) Tryd.underlying164 ty162 rfl rfl (by omega) (by omega)) rfl (fun a hF => ?_)
          refine r_q (i := 4) rfl (by kernel_rfl) (by kernel_rfl) rfl (by kernel_rfl) (fun _ _ _ _ h => h) hF hS (q_load ty162 rfl (i := 2) rfl (by rw [Nat.ble_eq, wc_length, addK_length]; omega) rfl (show ldv false 1 (wc (addK s.l v.l i)) i = some (.int .u32 (gt (addK s.l v.l i) i : Int)) from wc_ld2 (by rw [addK_length]; omega))) rfl (fun a hF => ?_)
          refine r_q (i := 5) rfl (by kernel_rfl) (by kernel_rfl) rfl (by kernel_rfl) (fun _ _ _ _ h => h) hF hS (q_move rfl) rfl (fun a hF => ?_)
          refine r_q (i := 6) rfl (by kernel_rfl) (by kernel_rfl) rfl (by kernel_rfl) (fun _ _ _ _ h => h) hF hS (q_indexAddrAj (j := i) Tryd.underlying164 ty162 rfl rfl (by omega) (by omega)) rfl (fun a hF => ?_)
          refine r_q (i := 7) rfl (by kernel_rfl) (by kernel_rfl) rfl (by kernel_rfl) (fun _ _ _ _ h => h) hF hS (q_load ty162 rfl (i := 0) rfl (by rw [Nat.ble_eq, wc_length]; show i + 1 ≤ 8; omega) rfl (show ldv false 1 (wc v.l) i = some (.int .u32 (gt v.l i : Int)) from wc_ld2 (by show i < 8; omega))) rfl (fun a hF => ?_)
          refine r_q (i := 8) rfl (by kernel_rfl) (by kernel_rfl) rfl (by kernel_rfl) (fun _ _ _ _ h => h) hF hS (q_add32 rfl rfl) rfl (fun a hF => ?_)
          refine r_q (i := 9) rfl (by kernel_rfl) (by kernel_rfl) rfl (by kernel_rfl) (fun _ _ _ _ h => h) hF hS (q_nilCheck rfl) rfl (fun a hF => ?_)
          refine r_q (i := 10) rfl (by kernel_rfl) (by kernel_rfl) rfl (by kernel_rfl) (fun _ _ _ _ h => h) hF hS (q_indexAddrAj (j := i) Tryd.underlying164 ty162 rfl rfl (by omega) (by omega)) rfl (fun a hF => ?_)
          refine r_one (i := 11) (by kernel_rfl) ?_
          refine r_lL rfl rfl rfl (fun K45 hK45 => l_store (vs := [_]) ty162 hF hS rfl rfl (i := 2) rfl rfl rfl (by rw [Nat.ble_eq, wc_length, addK_length]; omega) rfl (fun a w hF hS => hK45 _ _ ?_))
          refine r_done (by kernel_rfl) ?_
          refine hK43 _ _ ?_
          refine c_reg ?_
          refine n_q hF hS (q_addI rfl rfl (by omega)) rfl (fun a hF => ?_)
          refine n_q hF hS (q_move rfl) rfl (fun a hF => ?_)
          exact ⟨i + 1, _, (by show 8 - (i + 1) < 8 - i; omega), hl3, hF.back ⟨rfl, trivial⟩ rfl (by repeat first | exact Ext.refl _ _ | refine Ext.rem' rfl ?_ | refine Ext.push rfl ?_), (by dsimp only [List.set] at hS; rw [wc_spl2 (by rw [addK_length]; omega), addK_succ _ _ _ hlt] at hS; exact hS), (by omega)⟩
        · refine c_false hF rfl ?_
          refine c_exit ?_
          repeat (first | refine ex_then ?_ | refine ex_blk ?_)
          refine c_norm (P := Tryd.prog) (fn := Tryd.f99) rfl hF hS .nil ⟨_, rfl, ?_⟩
          have hi8 : i = 8 := by omega
          have ht64 : t = 64 := by omega
          rw [ht64] at hvd
          rw [hi8, addK_eight, hvd] at hS
          exact ⟨rfl, (hS.lose (.cons _ (.cons _ (.refl _)))).down⟩
end Go.Proofs.YtneokajhmonpaaaDoor
namespace Go.Proofs.YtneokajhmonpaaaDoor
open Go Go.RowKit Go.W
set_option maxRecDepth 10000
namespace T9
theorem bt5 : byS Tryd.prog 5 = some 1 := by kernel_rfl
theorem en90 : enS Tryd.prog 90 = true := by kernel_rfl
theorem ty5 : tyS Tryd.prog 5 = some (false, 1) := by kernel_rfl
theorem ty46 : tyS Tryd.prog 46 = some (false, 1) := by kernel_rfl
theorem zr5 : zrS Tryd.prog 5 = some [.int .u8 0] := by kernel_rfl
theorem mo : Tryd.prog.follows .mixedOrders = true := by kernel_rfl
end T9
open T9

theorem Grow_c (m : Nat) (hm : m ≤ 1099511627776) (w : World) (H : Froz) (hz : Fz H w) :
    CallsR Tryd.prog 90 [.slice none 0 0, .int .i64 (m : Int)] w fun v w' => ∃ ad cp Lx, v = .slice ad 0 cp ∧ OwS 5 1 (.slice ad 0 cp) 0 [] Lx ∧ St ⟨w, H, []⟩ H Lx w' := by
  refine calls_start Tryd.func90 rfl Tryd.ntmps90 rfl (fun a hF => ?_)
  have hS := St.start w H hz
  refine c_seq (fun K1 hK1 => ?_)
  refine c_reg ?_
  refine n_q hF hS (q_assign rfl) rfl (fun a hF => ?_)
  refine hK1 _ _ ?_
  refine c_seq (fun K2 hK2 => ?_)
  refine c_seq (fun K3 hK3 => ?_)
  refine c_reg ?_
  refine n_q hF hS (q_move rfl) rfl (fun a hF => ?_)
  refine n_q hF hS (q_lss rfl rfl) rfl (fun a hF => ?_)
  refine hK3 _ _ ?_
  refine spF hF (s := 6) rfl (by omega) (fun hF => ?_)
  refine c_false hF rfl ?_
  refine wp_skip ?_
  refine hK2 _ _ ?_
  refine c_seq (fun K4 hK4 => ?_)
  refine c_seq (fun K5 hK5 => ?_)
  refine c_reg ?_
  refine n_q hF hS (q_move rfl) rfl (fun a hF => ?_)
  refine n_q hF hS (q_move rfl) rfl (fun a hF => ?_)
  refine n_q hF hS (q_cap Tryd.underlying46 rfl rfl) rfl (fun a hF => ?_)
  refine n_q hF hS (q_move rfl) rfl (fun a hF => ?_)
  refine n_q hF hS (q_len Tryd.underlying46 rfl rfl) rfl (fun a hF => ?_)
  refine n_q hF hS (q_subI rfl rfl (by omega)) rfl (fun a hF => ?_)
  refine n_q hF hS (q_subI rfl rfl (by omega)) rfl (fun a hF => ?_)
  refine n_q hF hS (q_assign rfl) rfl (fun a hF => ?_)
  refine hK5 _ _ ?_
  refine c_seq (fun K6 hK6 => ?_)
  refine c_reg ?_
  refine rw_ hF (s := 1) (u := .int .i64 (m : Int)) rfl (by simp) (fun hF => ?_)
  refine n_q hF hS (q_move rfl) rfl (fun a hF => ?_)
  refine n_q hF hS (q_gtr rfl rfl) rfl (fun a hF => ?_)
  refine hK6 _ _ ?_
  refine spd hF (s := 16) rfl (fun hc16 hF => ?_) (fun hc16 hF => ?_)
  · refine c_true hF rfl ?_
    refine c_reg ?_
    refine n_q hF hS (q_move rfl) rfl (fun a hF => ?_)
    refine n_q hF hS (q_move rfl) rfl (fun a hF => ?_)
    refine n_q hF hS (q_cap Tryd.underlying46 rfl rfl) rfl (fun a hF => ?_)
    refine n_q hF hS (q_sliceP (h := 0) Tryd.underlying46 ty5 rfl rfl (by omega)) rfl (fun a hF => ?_)
    refine n_q hF hS (q_move rfl) rfl (fun a hF => ?_)
    refine n_l rfl (fun K7 hK7 => l_appendZ (m := m) Tryd.underlying46 Tryd.underlying3 ty5 zr5 bt5 hF hS rfl rfl (by omega) (by omega) (by simp only [maxLen]; omega) rfl rfl rfl (fun a w bz cz tz htz hmz hcz hF hS => hK7 _ _ ?_))
    refine n_q hF hS (q_move rfl) rfl (fun a hF => ?_)
    refine n_q hF hS (q_len Tryd.underlying46 rfl rfl) rfl (fun a hF => ?_)
    refine n_q hF hS (q_sliceP (h := 0) Tryd.underlying46 ty5 rfl rfl (by omega)) rfl (fun a hF => ?_)
    refine n_q hF hS (q_assign rfl) rfl (fun a hF => ?_)
    refine hK4 _ _ ?_
    refine c_seq (fun K8 hK8 => ?_)
    refine c_reg ?_
    refine n_q hF hS (q_move rfl) rfl (fun a hF => ?_)
    refine n_q hF hS (q_assign rfl) rfl (fun a hF => ?_)
    refine hK8 _ _ ?_
    refine c_ret ?_
    repeat (first | refine ret_then ?_ | refine ret_blk ?_)
    refine c_ret' (P := Tryd.prog) (fn := Tryd.f90) rfl hF hS (.tmp rfl .nil) ⟨_, rfl, ?_⟩
    refine ⟨_, _, [⟨bz, [] ++ tz, 5⟩], rfl, .row (by simp) (by simpa using htz) (Nat.zero_le _) hcz, hS⟩
  · refine c_false hF rfl ?_
    refine wp_skip ?_
    refine hK4 _ _ ?_
    refine c_seq (fun K9 hK9 => ?_)
    refine c_reg ?_
    refine n_q hF hS (q_move rfl) rfl (fun a hF => ?_)
    refine n_q hF hS (q_assign rfl) rfl (fun a hF => ?_)
    refine hK9 _ _ ?_
    refine c_ret ?_
    repeat (first | refine ret_then ?_ | refine ret_blk ?_)
    refine c_ret' (P := Tryd.prog) (fn := Tryd.f90) rfl hF hS (.tmp rfl .nil) ⟨_, rfl, ?_⟩
    exact ⟨none, 0, [], rfl, .nil, hS.same⟩

theorem Concat_c (xs : List Sl) (a : Option Addr) (c : Nat) (hlen : xs.length ≤ 1000) (hb : (xs.map Sl.n).sum ≤ 1099511627776) (w : World) (H : Froz) (hz : Fz H w) (hr : RdL H a 1 (slE xs)) (hall : AllSl H xs) :
    CallsR Tryd.prog 55 [.slice a xs.length c] w fun v w' => ∃ ad cp Lx, v = .slice ad (xs.map Sl.n).sum cp ∧ OwS 5 1 (.slice ad (xs.map Sl.n).sum cp) (xs.map Sl.n).sum (bc (xs.flatMap Sl.bs)) Lx ∧ St ⟨w, H, []⟩ H Lx w' := by
  refine calls_start Tryd.func55 rfl Tryd.ntmps55 rfl (fun a hF => ?_)
  have hS := St.start w H hz
  refine c_seq (fun K1 hK1 => ?_)
  refine c_reg ?_
  refine n_q hF hS (q_assign rfl) rfl (fun a hF => ?_)
  refine hK1 _ _ ?_
  refine c_seq (fun K2 hK2 => ?_)
  refine c_reg ?_
  refine n_q hF hS (q_assign rfl) rfl (fun a hF => ?_)
  refine hK2 _ _ ?_
  refine c_seq (fun K3 hK3 => ?_)
  refine c_seq (fun K4 hK4 => ?_)
  refine c_reg ?_
  refine n_q hF hS (q_move rfl) rfl (fun a hF => ?_)
  refine n_q hF hS (q_len Tryd.underlying152 rfl rfl) rfl (fun a hF => ?_)
  refine n_q hF hS (q_move rfl) rfl (fun a hF => ?_)
  refine hK4 _ _ ?_
  refine c_block ?_
  refine c_loopS hF [3, 5, 11, 12, 13, 14, 15, 16, 17, 18, 19, 20, 21, 22]
    (fun k : Nat => [(3, .int .i64 (sumN xs k : Int)), (11, .int .i64 (k : Int))])
    (fun _ => [])
    (fun k _ => k ≤ xs.length)
    (fun k => xs.length - k) (0) ⟨rfl, rfl, trivial⟩ (hS) (Nat.zero_le _) ?_
  clear hF hS
  intro k a w H hle hF hS hJ
  replace hr := hr.mono hle
  replace hall := hall.mono hle
  have hl0 := Le.refl H
  try dsimp only at hF hJ hS
  refine c_seq (fun K5 hK5 => ?_)
  refine c_reg ?_
  refine n_q hF hS (q_lss rfl rfl) rfl (fun a hF => ?_)
  refine hK5 _ _ ?_
  refine c_seq (fun K6 hK6 => ?_)
  refine spd hF (s := 12) rfl (fun hc12 hF => ?_) (fun hc12 hF => ?_)
  · refine c_true hF rfl ?_
    refine wp_skip ?_
    refine hK6 _ _ ?_
    refine c_seq (fun K7 hK7 => ?_)
    refine c_block ?_
    refine c_seq (fun K8 hK8 => ?_)
    refine c_reg ?_
    have hlt : k < xs.length := by omega
    have hel : (slE xs)[k]? = some [Value.slice xs[k].a xs[k].n xs[k].c] := by simp [slE, hlt]
    have hsu := sumN_succ hlt
    have hsl := sumN_le xs (k + 1)
    refine n_q hF hS (q_indexAddrS Tryd.underlying152 ty46 rfl rfl (by omega) (hr.some (by rw [slE_length]; omega))) rfl (fun a hF => ?_)
    refine n_q hF hS (q_loadL0 ty46 rfl hr hel (by decide) rfl rfl) rfl (fun a hF => ?_)
    refine n_q hF hS (q_assign rfl) rfl (fun a hF => ?_)
    refine hK8 _ _ ?_
    refine c_seq (fun K9 hK9 => ?_)
    refine c_reg ?_
    refine n_q hF hS (q_move rfl) rfl (fun a hF => ?_)
    refine n_q hF hS (q_move rfl) rfl (fun a hF => ?_)
    refine n_q hF hS (q_len Tryd.underlying46 rfl rfl) rfl (fun a hF => ?_)
    refine n_q hF hS (q_addI rfl rfl (by omega)) rfl (fun a hF => ?_)
    refine n_q hF hS (q_assign rfl) rfl (fun a hF => ?_)
    refine hK9 _ _ ?_
    refine c_seq (fun K10 hK10 => ?_)
    refine c_reg ?_
    refine n_q hF hS (q_move rfl) rfl (fun a hF => ?_)
    refine n_q hF hS (q_lss rfl rfl) rfl (fun a hF => ?_)
    refine hK10 _ _ ?_
    refine spF hF (s := 20) rfl (by omega) (fun hF => ?_)
    refine c_false hF rfl ?_
    refine wp_skip ?_
    refine hK7 _ _ ?_
    refine c_reg ?_
    refine n_q hF hS (q_addI rfl rfl (by omega)) rfl (fun a hF => ?_)
    refine n_q hF hS (q_move rfl) rfl (fun a hF => ?_)
    exact ⟨k + 1, _, (by show xs.length - (k + 1) < xs.length - k; omega), hl0, hF.back ⟨by show some (Value.int _ _) = some (Value.int _ _); rw [hsu]; push_cast; rfl, rfl, trivial⟩ rfl (by repeat first | exact Ext.refl _ _ | refine Ext.rem' rfl ?_ | refine Ext.push rfl ?_), hS.lose (.refl _), (by omega)⟩
  · refine c_false hF rfl ?_
    refine c_exit ?_
    refine hK3 _ _ ?_
    refine c_seq (fun K11 hK11 => ?_)
    refine c_reg ?_
    have hsm : sumN xs k ≤ 1099511627776 := by have := sumN_le xs k; omega
    refine n_q hF hS (q_move rfl) rfl (fun a hF => ?_)
    refine n_l rfl (fun K12 hK12 => l_call en90 hF rfl rfl (Grow_c _ hsm _ _ hS.fz) (fun v12 w hR a hF => ?_))
    obtain ⟨ad, cp, Lx, rfl, ho, hc⟩ := hR
    replace hS : St _ _ (Lx ++ []) _ := hS.call hc
    refine hK12 _ _ ?_
    refine n_q hF hS (q_assign rfl) rfl (fun a hF => ?_)
    refine hK11 _ _ ?_
    refine c_seq (fun K13 hK13 => ?_)
    refine c_seq (fun K14 hK14 => ?_)
    refine c_reg ?_
    refine n_q hF hS (q_move rfl) rfl (fun a hF => ?_)
    refine n_q hF hS (q_len Tryd.underlying152 rfl rfl) rfl (fun a hF => ?_)
    refine n_q hF hS (q_move rfl) rfl (fun a hF => ?_)
    refine hK14 _ _ ?_
    refine c_block ?_
    have hd0 := hJ
    refine c_loopL hF [6, 8, 27, 28, 29, 30, 31, 32, 33, 34]
      (fun g : Nat × Option Addr × Nat × List Blk => [(6, .slice g.2.1 (sumN xs g.1) g.2.2.1), (27, .int .i64 (g.1 : Int))])
      (fun g => g.2.2.2 ++ [])
      (fun g _ => g.1 ≤ xs.length ∧ OwS 5 1 (.slice g.2.1 (sumN xs g.1) g.2.2.1) (sumN xs g.1) (bc (catN xs g.1)) g.2.2.2)
      (fun g => xs.length - g.1) ((0, ad, cp, Lx)) ⟨rfl, rfl, trivial⟩ (hS) (⟨Nat.zero_le _, ho⟩) ?_
    clear hF hS
    intro g a w H hle hF hS hJ
    replace hr := hr.mono hle
    replace hall := hall.mono hle
    have hl1 := Le.refl H
    obtain ⟨k, ad, cp, Lx⟩ := g
    try dsimp only at hF hJ hS
    refine c_seq (fun K15 hK15 => ?_)
    refine c_reg ?_
    refine n_q hF hS (q_lss rfl rfl) rfl (fun a hF => ?_)
    refine hK15 _ _ ?_
    refine c_seq (fun K16 hK16 => ?_)
    refine spd hF (s := 28) rfl (fun hc28 hF => ?_) (fun hc28 hF => ?_)
    · refine c_true hF rfl ?_
      refine wp_skip ?_
      refine hK16 _ _ ?_
      refine c_seq (fun K17 hK17 => ?_)
      refine c_block ?_
      refine c_seq (fun K18 hK18 => ?_)
      refine c_reg ?_
      have hlt : k < xs.length := by have := hJ.1; omega
      have hel : (slE xs)[k]? = some [Value.slice xs[k].a xs[k].n xs[k].c] := by simp [slE, hlt]
      have hsu := sumN_succ hlt
      have hsl := sumN_le xs (k + 1)
      have hcs := catN_succ hlt
      refine n_q hF hS (q_indexAddrS Tryd.underlying152 ty46 rfl rfl (by omega) (hr.some (by rw [slE_length]; omega))) rfl (fun a hF => ?_)
      refine n_q hF hS (q_loadL0 ty46 rfl hr hel (by decide) rfl rfl) rfl (fun a hF => ?_)
      refine n_q hF hS (q_assign rfl) rfl (fun a hF => ?_)
      refine hK18 _ _ ?_
      refine c_reg ?_
      refine n_q hF hS (q_move rfl) rfl (fun a hF => ?_)
      refine n_q hF hS (q_move rfl) rfl (fun a hF => ?_)
      refine n_l rfl (fun K19 hK19 => l_append (L := []) Tryd.underlying46 ty5 zr5 bt5 hF hS rfl rfl (hJ.2) (.slice Tryd.underlying46 (hall xs[k] (List.getElem_mem hlt)) (bc_all1 _)) (by rw [← hsu]; omega) (by rw [← hsu]; simp only [maxLen]; omega) rfl rfl (fun a w c13_2 ad13_2 Lx13_2 ho13_2 hF hS => hK19 _ _ ?_))
      rw [← hsu] at ho13_2 hF
      rw [← bc_append, ← hcs] at ho13_2
      refine n_q hF hS (q_assign rfl) rfl (fun a hF => ?_)
      refine hK17 _ _ ?_
      refine c_reg ?_
      refine n_q hF hS (q_addI rfl rfl (by omega)) rfl (fun a hF => ?_)
      refine n_q hF hS (q_move rfl) rfl (fun a hF => ?_)
      exact ⟨(k + 1, ad13_2, c13_2, Lx13_2), _, (by show xs.length - (k + 1) < xs.length - k; omega), hl1, hF.back ⟨rfl, rfl, trivial⟩ rfl (by repeat first | exact Ext.refl _ _ | refine Ext.rem' rfl ?_ | refine Ext.push rfl ?_), hS.lose (.refl _), ⟨by show k + 1 ≤ xs.length; omega, ho13_2⟩⟩
    · refine c_false hF rfl ?_
      refine c_exit ?_
      refine hK13 _ _ ?_
      refine c_seq (fun K20 hK20 => ?_)
      refine c_reg ?_
      refine n_q hF hS (q_move rfl) rfl (fun a hF => ?_)
      refine n_q hF hS (q_assign rfl) rfl (fun a hF => ?_)
      refine hK20 _ _ ?_
      refine c_ret ?_
      repeat (first | refine ret_then ?_ | refine ret_blk ?_)
      refine c_ret' (P := Tryd.prog) (fn := Tryd.f55) rfl hF hS (.tmp rfl .nil) ⟨_, rfl, ?_⟩
      have hk : k = xs.length := by have := hJ.1; omega
      obtain ⟨hJ1, hJ2⟩ := hJ
      rw [hk, sumN_all (Nat.le_refl _), show catN xs xs.length = xs.flatMap Sl.bs by unfold catN; rw [List.take_length]] at hJ2
      rw [hk] at hF
      refine ⟨ad, cp, Lx, ?_, hJ2, ?_⟩
      · show Value.slice _ _ _ = _
        rw [hk, sumN_all (Nat.le_refl _)]
      · rw [List.append_nil] at hS
        exact hS.down
end Go.Proofs.YtneokajhmonpaaaDoor
namespace Go.Proofs.YtneokajhmonpaaaDoor
open Go Go.RowKit Go.W
set_option maxRecDepth 10000
namespace T10
theorem bt5 : byS Tryd.prog 5 = some 1 := by kernel_rfl
theorem en99 : enS Tryd.prog 99 = true := by kernel_rfl
theorem en100 : enS Tryd.prog 100 = true := by kernel_rfl
theorem ty5 : tyS Tryd.prog 5 = some (false, 1) := by kernel_rfl
theorem ty35 : tyS Tryd.prog 35 = some (true, 32) := by kernel_rfl
theorem ty162 : tyS Tryd.prog 162 = some (false, 1) := by kernel_rfl
theorem ty163 : tyS Tryd.prog 163 = some (true, 8) := by kernel_rfl
theorem ty164 : tyS Tryd.prog 164 = some (true, 8) := by kernel_rfl
theorem zr5 : zrS Tryd.prog 5 = some [.int .u8 0] := by kernel_rfl
theorem zr35 : zrS Tryd.prog 35 = some (List.replicate 32 (.int .u8 0)) := by kernel_rfl
theorem zr164 : zrS Tryd.prog 164 = some [.int .u32 0, .int .u32 0, .int .u32 0, .int .u32 0, .int .u32 0, .int .u32 0, .int .u32 0, .int .u32 0] := by kernel_rfl
theorem mo : Tryd.prog.follows .mixedOrders = true := by kernel_rfl
end T10
open T10

set_option maxHeartbeats 800000 in
theorem Sum_c (bs : List UInt8) (a0 : Option Addr) (n c : Nat) (hn : n ≤ 1099511627776) (hc : n ≤ c) (w : World) (H : Froz) (hz : Fz H w) (hg : Gl 0 1 H) (hr : RdS H a0 n 1 (bc bs)) :
    CallsR Tryd.prog 65 [.slice a0 n c] w fun v w' => v = .agg (dc (shaD bs)).toArray ∧ St ⟨w, H, []⟩ H [] w' := by
  refine calls_start Tryd.func65 rfl Tryd.ntmps65 rfl (fun a hF => ?_)
  have hS := St.start w H hz
  have hbl := hr.bytes
  subst hbl
  refine c_seq (fun K1 hK1 => ?_)
  refine c_reg ?_
  refine n_l rfl (fun K2 hK2 => l_alloc hF hS zr35 rfl (fun a w b1 hF hS => hK2 _ _ ?_))
  refine hK1 _ _ ?_
  refine c_seq (fun K3 hK3 => ?_)
  refine c_reg ?_
  refine n_q hF hS (q_loadG (cs := wc startV.l) (v := .agg (wc startV.l).toArray) ty163 rfl hg.st (by decide) rfl rfl) rfl (fun a hF => ?_)
  refine n_l rfl (fun K4 hK4 => l_alloc hF hS zr164 rfl (fun a w b2 hF hS => hK4 _ _ ?_))
  refine n_l rfl (fun K5 hK5 => l_store0A ty164 hF hS rfl rfl (i := 0) rfl rfl rfl rfl (fun a w hF hS => hK5 _ _ ?_))
  refine hK3 _ _ ?_
  refine c_seq (fun K6 hK6 => ?_)
  refine c_reg ?_
  refine n_q hF hS (q_makeFunc rfl rfl) rfl (fun a hF => ?_)
  refine n_q hF hS (q_assign rfl) rfl (fun a hF => ?_)
  refine hK6 _ _ ?_
  refine c_seq (fun K7 hK7 => ?_)
  refine c_reg ?_
  refine n_q hF hS (q_move rfl) rfl (fun a hF => ?_)
  refine n_q hF hS (q_assign rfl) rfl (fun a hF => ?_)
  refine hK7 _ _ ?_
  refine c_seq (fun K8 hK8 => ?_)
  refine c_block ?_
  refine c_loopL hF [5, 12, 13, 14, 15, 16, 17, 18, 19, 20]
    (fun g : Nat × Option Addr => [(5, .slice g.2 (bs.length - 64 * g.1) (c - 64 * g.1))])
    (fun g => [⟨b2, wc (absorbs startV bs g.1).l, 164⟩, ⟨b1, bc (List.replicate 32 0), 35⟩])
    (fun g H => 64 * g.1 ≤ bs.length ∧ RdS H g.2 (bs.length - 64 * g.1) 1 (bc (bs.drop (64 * g.1))))
    (fun g => bs.length - 64 * g.1) ((0, a0)) ⟨rfl, trivial⟩ (hS) (⟨Nat.zero_le _, hr⟩) ?_
  clear hF hS
  intro g a w H hle hF hS hJ
  replace hr := hr.mono hle
  replace hg := hg.mono hle
  have hl0 := Le.refl H
  obtain ⟨k, ad⟩ := g
  obtain ⟨hj, hjr⟩ := hJ
  try dsimp only at hF hS hj hjr
  refine c_seq (fun K9 hK9 => ?_)
  refine c_seq (fun K10 hK10 => ?_)
  refine c_reg ?_
  refine n_q hF hS (q_move rfl) rfl (fun a hF => ?_)
  refine n_q hF hS (q_len Tryd.underlying46 rfl rfl) rfl (fun a hF => ?_)
  refine n_q hF hS (q_geq rfl rfl) rfl (fun a hF => ?_)
  refine hK10 _ _ ?_
  refine spd hF (s := 14) rfl (fun hc14 hF => ?_) (fun hc14 hF => ?_)
  · refine c_true hF rfl ?_
    refine wp_skip ?_
    refine hK9 _ _ ?_
    refine c_seq (fun K11 hK11 => ?_)
    refine c_block ?_
    refine c_reg ?_
    refine n_q hF hS (q_move rfl) rfl (fun a hF => ?_)
    refine n_q hF hS (q_move rfl) rfl (fun a hF => ?_)
    refine n_q hF hS (q_sliceP (h := 64) Tryd.underlying46 ty5 rfl rfl (by omega)) rfl (fun a hF => ?_)
    refine n_l rfl (fun K12 hK12 => l_callv en99 hF rfl rfl rfl (absorb_c b2 (absorbs startV bs k) ((bs.drop (64 * k)).take 64) _ _ _ _ (absorbs_ok startV_ok _ _) rfl (by omega) _ _ (hS.hand1 (i := 0) rfl) hg (hjr.preB (by omega))) (fun v12 w hR a hF => ?_))
    obtain ⟨rfl, hc⟩ := hR
    replace hS := hS.callM (i := 0) (L' := []) rfl hc
    refine hK12 _ _ ?_
    refine hK11 _ _ ?_
    refine c_reg ?_
    refine n_q hF hS (q_move rfl) rfl (fun a hF => ?_)
    refine n_q hF hS (q_sliceF (l := 64) Tryd.underlying46 ty5 rfl rfl (by omega)) rfl (fun a hF => ?_)
    refine n_q hF hS (q_assign rfl) rfl (fun a hF => ?_)
    exact ⟨(k + 1, cutA ad (c - 64 * k) 64 1), _, (by show bs.length - 64 * (k + 1) < bs.length - 64 * k; omega), hl0, hF.back ⟨by show some (Value.slice _ _ _) = some (Value.slice _ _ _); rw [show bs.length - 64 * (k + 1) = bs.length - 64 * k - 64 by omega, show c - 64 * (k + 1) = c - 64 * k - 64 by omega], trivial⟩ rfl (by repeat first | exact Ext.refl _ _ | refine Ext.rem' rfl ?_ | refine Ext.push rfl ?_), hS.lose (.refl _), ⟨by show 64 * (k + 1) ≤ bs.length; omega, by have := hjr.fromB (c := c - 64 * k) (l := 64) (by omega) (by omega); rw [List.drop_drop] at this; rw [show bs.length - 64 * (k + 1) = bs.length - 64 * k - 64 by omega, show 64 * (k + 1) = 64 * k + 64 by omega]; exact this⟩⟩
  · refine c_false hF rfl ?_
    refine c_exit ?_
    refine hK8 _ _ ?_
    refine c_seq (fun K13 hK13 => ?_)
    refine c_reg ?_
    obtain ⟨r, hrd⟩ : ∃ r, r = bs.drop (64 * k) := ⟨_, rfl⟩
    have hr64 : r.length = bs.length - 64 * k := by rw [hrd, List.length_drop]
    have hrl : r.length < 64 := by omega
    have hkk : bs.length / 64 = k := by omega
    have hrk : r = bs.drop (64 * (bs.length / 64)) := by rw [hkk]; exact hrd
    refine n_l rfl (fun K14 hK14 => l_makeO (l := 64) (c := 128) Tryd.underlying46 ty5 zr5 bt5 hF hS rfl rfl (by decide) (by decide) (by decide) (by decide) rfl rfl rfl (fun a w b3 hF hS => hK14 _ _ ?_))
    refine n_q hF hS (q_assign rfl) rfl (fun a hF => ?_)
    refine hK13 _ _ ?_
    refine c_seq (fun K15 hK15 => ?_)
    refine c_reg ?_
    rw [bc_zeros] at hS
    refine n_q hF hS (q_move rfl) rfl (fun a hF => ?_)
    refine n_q hF hS (q_move rfl) rfl (fun a hF => ?_)
    refine n_l rfl (fun K16 hK16 => l_copyG (k := r.length) (news := bc r) Tryd.underlying46 ty5 hF hS rfl rfl (i := 0) rfl (by omega) (by rw [bc_length, Nat.mul_one]) (by rw [bc_length, List.length_replicate]; omega) (bc_all1 _) (fun h0 => by obtain ⟨b9, o9, e9, h9⟩ := hjr.at_ (by omega); exact ⟨b9, o9, e9, fun j v hv => hS.hcell (h9 j v (by rw [← hrd]; exact hv))⟩) rfl (fun a w hF hS => hK16 _ _ ?_))
    refine hK15 _ _ ?_
    refine c_seq (fun K17 hK17 => ?_)
    refine c_reg ?_
    try dsimp only [List.set] at hS
    rw [spl_bc] at hS
    refine n_q hF hS (q_move rfl) rfl (fun a hF => ?_)
    refine n_q hF hS (q_move rfl) rfl (fun a hF => ?_)
    refine n_q hF hS (q_len Tryd.underlying46 rfl rfl) rfl (fun a hF => ?_)
    refine n_q hF hS (q_indexAddrSO (j := r.length) Tryd.underlying46 ty5 rfl rfl (by omega) (by omega)) rfl (fun a hF => ?_)
    refine n_l rfl (fun K18 hK18 => l_store (vs := [_]) ty5 hF hS rfl rfl (i := 0) rfl rfl rfl (by rw [Nat.ble_eq, bc_length, splU_length (by simp; omega), List.length_replicate]; omega) rfl (fun a w hF hS => hK18 _ _ ?_))
    refine hK17 _ _ ?_
    refine c_seq (fun K19 hK19 => ?_)
    refine c_seq (fun K20 hK20 => ?_)
    refine c_reg ?_
    try dsimp only [List.set] at hS
    rw [one80, spl_bc] at hS
    have hl3 : (bc (splU (splU (List.replicate 128 0) 0 r) r.length [0x80])).length = 128 := by rw [bc_length, splU_length (by rw [splU_length (by simp; omega)]; simp; omega), splU_length (by simp; omega), List.length_replicate]
    refine n_q hF hS (q_move rfl) rfl (fun a hF => ?_)
    refine n_q hF hS (q_len Tryd.underlying46 rfl rfl) rfl (fun a hF => ?_)
    refine n_q hF hS (q_gtr rfl rfl) rfl (fun a hF => ?_)
    refine hK20 _ _ ?_
    refine spd hF (s := 31) rfl (fun hc31 hF => ?_) (fun hc31 hF => ?_)
    · refine c_true hF rfl ?_
      refine c_reg ?_
      refine n_q hF hS (q_move rfl) rfl (fun a hF => ?_)
      refine n_q hF hS (q_sliceP (h := 128) Tryd.underlying46 ty5 rfl rfl (by decide)) rfl (fun a hF => ?_)
      refine n_q hF hS (q_assign rfl) rfl (fun a hF => ?_)
      refine hK19 _ _ ?_
      refine c_seq (fun K21 hK21 => ?_)
      refine c_reg ?_
      refine n_q hF hS (q_move rfl) rfl (fun a hF => ?_)
      refine n_q hF hS (q_move rfl) rfl (fun a hF => ?_)
      refine n_q hF hS (q_len Tryd.underlying46 rfl rfl) rfl (fun a hF => ?_)
      refine n_q hF hS (q_subI rfl rfl (by omega)) rfl (fun a hF => ?_)
      refine n_q hF hS (q_sliceF (l := 120) Tryd.underlying46 ty5 rfl rfl (by decide)) rfl (fun a hF => ?_)
      refine n_q hF hS (q_move rfl) rfl (fun a hF => ?_)
      refine n_q hF hS (q_len Tryd.underlying46 rfl rfl) rfl (fun a hF => ?_)
      refine n_q hF hS (q_cv64 Tryd.underlying3 Tryd.underlying160 rfl (by omega)) rfl (fun a hF => ?_)
      refine n_q hF hS (q_mul64n (b := 8) rfl rfl (by omega)) rfl (fun a hF => ?_)
      refine n_l rfl (fun K22 hK22 => l_call en100 hF rfl rfl (put_c b3 120 8 _ (bs.length * 8)  _ _ (by decide) (by rw [hl3]; decide) (by omega) _ _ (hS.hand1 (i := 0) rfl)) (fun v22 w hR a hF => ?_))
      obtain ⟨rfl, hc⟩ := hR
      replace hS := hS.callM (i := 0) (L' := []) rfl hc
      refine hK22 _ _ ?_
      refine hK21 _ _ ?_
      refine c_seq (fun K23 hK23 => ?_)
      refine c_block ?_
      rw [spl_bc] at hS
      have hm : 128 = if 55 < r.length then 128 else 64 := by rw [if_pos (by omega)]
      have hpl0 := padded_length hrk hm hrl
      have hfrd0 : RdS (frz H ⟨b3, bc (splU (splU (splU (List.replicate 128 0) 0 r) r.length [0x80]) (128 - 8) (beB 8 (bs.length * 8))), 5⟩) (some ⟨b3, 0, none⟩) 128 1 (bc (padded bs)) := frz_rd (by rw [← bc_take, pad_eq r _ 128 (beB_length _ _) (by omega) (by decide), ← padded_eq hrk hm]) hpl0
      obtain ⟨H3, hH3, hle3, hS3⟩ := hS.freeze' (i := 0) rfl
      replace hS := hS3
      replace hg := hg.mono hle3
      replace hr := hr.mono hle3
      rw [← hH3] at hfrd0
      obtain ⟨m, hmd, hm2⟩ : ∃ m, m = 128 ∧ (m = 64 ∨ m = 128) := ⟨_, rfl, by omega⟩
      have hpl : (padded bs).length = m := by rw [hmd]; exact hpl0
      have hfrd : RdS H3 (some ⟨b3, 0, none⟩) m 1 (bc (padded bs)) := by rw [hmd]; exact hfrd0
      replace hF := hF.setv (s := 6) (u := .slice (some ⟨b3, 0, none⟩) m 128) rfl (by rw [hmd])
      refine c_loopL hF [6, 44, 45, 46, 47, 48, 49, 50, 51, 52]
        (fun g : Nat × Option Addr => [(6, .slice g.2 (m - 64 * g.1) (128 - 64 * g.1))])
        (fun g => [⟨b2, wc (absorbs (absorbs startV bs k) (padded bs) g.1).l, 164⟩, ⟨b1, bc (List.replicate 32 0), 35⟩])
        (fun g H => 64 * g.1 ≤ m ∧ RdS H g.2 (m - 64 * g.1) 1 (bc ((padded bs).drop (64 * g.1))) ∧ Gl 0 1 H)
        (fun g => m - 64 * g.1) ((0, some ⟨b3, 0, none⟩)) ⟨rfl, trivial⟩ (hS) (⟨Nat.zero_le _, hfrd, hg⟩) ?_
      clear hF hS
      intro g a w H hle hF hS hJ
      replace hr := hr.mono hle
      replace hg := hg.mono hle
      have hl1 := Le.refl H
      obtain ⟨j, ad2⟩ := g
      obtain ⟨hj, hjr, hg⟩ := hJ
      try dsimp only at hF hS hj hjr
      refine c_seq (fun K24 hK24 => ?_)
      refine c_seq (fun K25 hK25 => ?_)
      refine c_reg ?_
      refine n_q hF hS (q_move rfl) rfl (fun a hF => ?_)
      refine n_q hF hS (q_len Tryd.underlying46 rfl rfl) rfl (fun a hF => ?_)
      refine n_q hF hS (q_gtr rfl rfl) rfl (fun a hF => ?_)
      refine hK25 _ _ ?_
      refine spd hF (s := 46) rfl (fun hc46 hF => ?_) (fun hc46 hF => ?_)
      · refine c_true hF rfl ?_
        refine wp_skip ?_
        refine hK24 _ _ ?_
        refine c_seq (fun K26 hK26 => ?_)
        refine c_block ?_
        refine c_reg ?_
        refine n_q hF hS (q_move rfl) rfl (fun a hF => ?_)
        refine n_q hF hS (q_move rfl) rfl (fun a hF => ?_)
        refine n_q hF hS (q_sliceP (h := 64) Tryd.underlying46 ty5 rfl rfl (by omega)) rfl (fun a hF => ?_)
        refine n_l rfl (fun K27 hK27 => l_callv en99 hF rfl rfl rfl (absorb_c b2 (absorbs (absorbs startV bs k) (padded bs) j) (((padded bs).drop (64 * j)).take 64) _ _ _ _ (absorbs_ok (absorbs_ok startV_ok _ _) _ _) rfl (by omega) _ _ (hS.hand1 (i := 0) rfl) hg (hjr.preB (by omega))) (fun v27 w hR a hF => ?_))
        obtain ⟨rfl, hc⟩ := hR
        replace hS := hS.callM (i := 0) (L' := []) rfl hc
        refine hK27 _ _ ?_
        refine hK26 _ _ ?_
        refine c_reg ?_
        refine n_q hF hS (q_move rfl) rfl (fun a hF => ?_)
        refine n_q hF hS (q_sliceF (l := 64) Tryd.underlying46 ty5 rfl rfl (by omega)) rfl (fun a hF => ?_)
        refine n_q hF hS (q_assign rfl) rfl (fun a hF => ?_)
        exact ⟨(j + 1, cutA ad2 (128 - 64 * j) 64 1), _, (by show m - 64 * (j + 1) < m - 64 * j; omega), hl1, hF.back ⟨by show some (Value.slice _ _ _) = some (Value.slice _ _ _); rw [show m - 64 * (j + 1) = m - 64 * j - 64 by omega, show 128 - 64 * (j + 1) = 128 - 64 * j - 64 by omega], trivial⟩ rfl (by repeat first | exact Ext.refl _ _ | refine Ext.rem' rfl ?_ | refine Ext.push rfl ?_), hS.lose (.refl _), ⟨by show 64 * (j + 1) ≤ m; omega, by have := hjr.fromB (c := 128 - 64 * j) (l := 64) (by omega) (by omega); rw [List.drop_drop] at this; rw [show m - 64 * (j + 1) = m - 64 * j - 64 by omega, show 64 * (j + 1) = 64 * j + 64 by omega]; exact this, hg⟩⟩
      · refine c_false hF rfl ?_
        refine c_exit ?_
        refine hK23 _ _ ?_
        refine c_seq (fun K28 hK28 => ?_)
        refine c_seq (fun K29 hK29 => ?_)
        refine c_reg ?_
        refine n_q hF hS (q_load0 ty164 rfl (i := 0) rfl rfl rfl) rfl (fun a hF => ?_)
        refine n_q hF hS (q_move rfl) rfl (fun a hF => ?_)
        refine hK29 _ _ ?_
        refine c_block ?_
        have hs : Lt32 (absorbs (absorbs startV bs k) (padded bs) j).l := absorbs_ok (absorbs_ok startV_ok _ _) _ _
        obtain ⟨s, hsd⟩ : ∃ s, s = absorbs (absorbs startV bs k) (padded bs) j := ⟨_, rfl⟩
        rw [← hsd] at hS hF hs
        refine c_loopL hF [7, 8, 54, 55, 56, 57, 58, 59, 60, 61, 62, 63, 64, 65, 66, 67]
          (fun i : Nat => [(54, .int .i64 (i : Int))])
          (fun i => [⟨b2, wc s.l, 164⟩, ⟨b1, bc (dK s.l i), 35⟩])
          (fun i _ => i ≤ 8)
          (fun i => 8 - i) (0) ⟨rfl, trivial⟩ ((by rw [dK_zero]; exact hS)) (Nat.zero_le _) ?_
        clear hF hS
        intro i a w H hle hF hS hJ
        replace hr := hr.mono hle
        replace hg := hg.mono hle
        have hl2 := Le.refl H
        try dsimp only at hF hJ hS
        refine c_seq (fun K30 hK30 => ?_)
        refine c_reg ?_
        refine n_q hF hS (q_lss rfl rfl) rfl (fun a hF => ?_)
        refine hK30 _ _ ?_
        refine c_seq (fun K31 hK31 => ?_)
        refine spd hF (s := 55) rfl (fun hc55 hF => ?_) (fun hc55 hF => ?_)
        · refine c_true hF rfl ?_
          refine wp_skip ?_
          refine hK31 _ _ ?_
          refine c_seq (fun K32 hK32 => ?_)
          refine c_block ?_
          refine c_seq (fun K33 hK33 => ?_)
          refine c_reg ?_
          refine n_q hF hS (q_move rfl) rfl (fun a hF => ?_)
          refine n_q hF hS (q_indexAgg (i := i) (cs := wc s.l) Tryd.underlying164 ty162 rfl rfl (by omega) (by rw [Nat.mul_one]; exact wc_ld2 (by show i < 8; omega))) rfl (fun a hF => ?_)
          refine n_q hF hS (q_assign rfl) rfl (fun a hF => ?_)
          refine n_q hF hS (q_assign rfl) rfl (fun a hF => ?_)
          refine hK33 _ _ ?_
          refine c_reg ?_
          refine n_q hF hS (q_move rfl) rfl (fun a hF => ?_)
          refine n_q hF hS (q_mulI rfl rfl (by omega)) rfl (fun a hF => ?_)
          refine n_q hF hS (q_move rfl) rfl (fun a hF => ?_)
          refine n_q hF hS (q_mulI rfl rfl (by omega)) rfl (fun a hF => ?_)
          refine n_q hF hS (q_addI rfl rfl (by omega)) rfl (fun a hF => ?_)
          refine n_q hF hS (q_sliceA (n := 32) (l := 4 * i) (h := 4 * i + 4) Tryd.underlying35 ty5 rfl ⟨_, rfl, by omega⟩ ⟨_, rfl, by omega⟩ (by omega)) rfl (fun a hF => ?_)
          refine n_q hF hS (q_move rfl) rfl (fun a hF => ?_)
          refine n_q hF hS (q_cv64 Tryd.underlying162 Tryd.underlying160 rfl (gt_lt_u64 hs i)) rfl (fun a hF => ?_)
          refine n_l rfl (fun K34 hK34 => l_call en100 hF rfl rfl (put_c b1 (0 + 4 * i * 1) (4 * i + 4 - 4 * i) _ (gt s.l i) _ _ (by omega) (by rw [bc_length, dK_length _ _ rfl (by omega)]; omega) (gt_lt_u64 hs i) _ _ (hS.hand1 (i := 1) rfl)) (fun v34 w hR a hF => ?_))
          obtain ⟨rfl, hc⟩ := hR
          replace hS := hS.callM (i := 1) (L' := []) rfl hc
          try dsimp only [List.set] at hS
          rw [Nat.mul_one, Nat.zero_add, Nat.add_sub_cancel_left, spl_bc, dK_succ _ _ rfl (by omega)] at hS
          refine hK34 _ _ ?_
          refine hK32 _ _ ?_
          refine c_reg ?_
          refine n_q hF hS (q_addI rfl rfl (by omega)) rfl (fun a hF => ?_)
          refine n_q hF hS (q_move rfl) rfl (fun a hF => ?_)
          exact ⟨i + 1, _, (by show 8 - (i + 1) < 8 - i; omega), hl2, hF.back ⟨rfl, trivial⟩ rfl (by repeat first | exact Ext.refl _ _ | refine Ext.rem' rfl ?_ | refine Ext.push rfl ?_), hS.lose (.refl _), (by omega)⟩
        · refine c_false hF rfl ?_
          refine c_exit ?_
          refine hK28 _ _ ?_
          refine c_seq (fun K35 hK35 => ?_)
          refine c_reg ?_
          have hi8 : i = 8 := by omega
          rw [hi8, dK_eight, hsd, sha_eq hpl (by omega) (by omega)] at hS
          rw [← dc_sha] at hS
          refine n_q hF hS (q_load0 ty35 rfl (i := 1) rfl (by simp [dc_length, List.length_replicate, List.length_cons, List.length_nil, List.length_append]) rfl) rfl (fun a hF => ?_)
          refine n_l rfl (fun K36 hK36 => l_store0A ty35 hF hS rfl rfl (i := 1) rfl (by simp [dc_length, List.length_replicate, List.length_cons, List.length_nil, List.length_append]) (by simp [dc_length, List.length_replicate, List.length_cons, List.length_nil, List.length_append]) (by first | exact dc_all1 _ | rfl | simp [all1]) (fun a w hF hS => hK36 _ _ ?_))
          refine hK35 _ _ ?_
          refine c_ret ?_
          repeat (first | refine ret_then ?_ | refine ret_blk ?_)
          refine c_ret' (P := Tryd.prog) (fn := Tryd.f65) rfl hF hS (.cell0 rfl ty35 (i := 1) rfl (by simp [dc_length, List.length_replicate, List.length_cons, List.length_nil, List.length_append]) rfl .nil) ⟨_, rfl, ?_⟩
          exact ⟨rfl, hS.same⟩
    · refine c_false hF rfl ?_
      refine wp_skip ?_
      refine hK19 _ _ ?_
      refine c_seq (fun K37 hK37 => ?_)
      refine c_reg ?_
      refine n_q hF hS (q_move rfl) rfl (fun a hF => ?_)
      refine n_q hF hS (q_move rfl) rfl (fun a hF => ?_)
      refine n_q hF hS (q_len Tryd.underlying46 rfl rfl) rfl (fun a hF => ?_)
      refine n_q hF hS (q_subI rfl rfl (by omega)) rfl (fun a hF => ?_)
      refine n_q hF hS (q_sliceF (l := 56) Tryd.underlying46 ty5 rfl rfl (by decide)) rfl (fun a hF => ?_)
      refine n_q hF hS (q_move rfl) rfl (fun a hF => ?_)
      refine n_q hF hS (q_len Tryd.underlying46 rfl rfl) rfl (fun a hF => ?_)
      refine n_q hF hS (q_cv64 Tryd.underlying3 Tryd.underlying160 rfl (by omega)) rfl (fun a hF => ?_)
      refine n_q hF hS (q_mul64n (b := 8) rfl rfl (by omega)) rfl (fun a hF => ?_)
      refine n_l rfl (fun K38 hK38 => l_call en100 hF rfl rfl (put_c b3 56 8 _ (bs.length * 8)  _ _ (by decide) (by rw [hl3]; decide) (by omega) _ _ (hS.hand1 (i := 0) rfl)) (fun v38 w hR a hF => ?_))
      obtain ⟨rfl, hc⟩ := hR
      replace hS := hS.callM (i := 0) (L' := []) rfl hc
      refine hK38 _ _ ?_
      refine hK37 _ _ ?_
      refine c_seq (fun K39 hK39 => ?_)
      refine c_block ?_
      rw [spl_bc] at hS
      have hm : 64 = if 55 < r.length then 128 else 64 := by rw [if_neg (by omega)]
      have hpl0 := padded_length hrk hm hrl
      have hfrd0 : RdS (frz H ⟨b3, bc (splU (splU (splU (List.replicate 128 0) 0 r) r.length [0x80]) (64 - 8) (beB 8 (bs.length * 8))), 5⟩) (some ⟨b3, 0, none⟩) 64 1 (bc (padded bs)) := frz_rd (by rw [← bc_take, pad_eq r _ 64 (beB_length _ _) (by omega) (by decide), ← padded_eq hrk hm]) hpl0
      obtain ⟨H3, hH3, hle3, hS3⟩ := hS.freeze' (i := 0) rfl
      replace hS := hS3
      replace hg := hg.mono hle3
      replace hr := hr.mono hle3
      rw [← hH3] at hfrd0
      obtain ⟨m, hmd, hm2⟩ : ∃ m, m = 64 ∧ (m = 64 ∨ m = 128) := ⟨_, rfl, by omega⟩
      have hpl : (padded bs).length = m := by rw [hmd]; exact hpl0
      have hfrd : RdS H3 (some ⟨b3, 0, none⟩) m 1 (bc (padded bs)) := by rw [hmd]; exact hfrd0
      replace hF := hF.setv (s := 6) (u := .slice (some ⟨b3, 0, none⟩) m 128) rfl (by rw [hmd])
      refine c_loopL hF [6, 44, 45, 46, 47, 48, 49, 50, 51, 52]
        (fun g : Nat × Option Addr => [(6, .slice g.2 (m - 64 * g.1) (128 - 64 * g.1))])
        (fun g => [⟨b2, wc (absorbs (absorbs startV bs k) (padded bs) g.1).l, 164⟩, ⟨b1, bc (List.replicate 32 0), 35⟩])
        (fun g H => 64 * g.1 ≤ m ∧ RdS H g.2 (m - 64 * g.1) 1 (bc ((padded bs).drop (64 * g.1))) ∧ Gl 0 1 H)
        (fun g => m - 64 * g.1) ((0, some ⟨b3, 0, none⟩)) ⟨rfl, trivial⟩ (hS) (⟨Nat.zero_le _, hfrd, hg⟩) ?_
      clear hF hS
      intro g a w H hle hF hS hJ
      replace hr := hr.mono hle
      replace hg := hg.mono hle
      have hl3 := Le.refl H
      obtain ⟨j, ad2⟩ := g
      obtain ⟨hj, hjr, hg⟩ := hJ
      try dsimp only at hF hS hj hjr
      refine c_seq (fun K40 hK40 => ?_)
      refine c_seq (fun K41 hK41 => ?_)
      refine c_reg ?_
      refine n_q hF hS (q_move rfl) rfl (fun a hF => ?_)
      refine n_q hF hS (q_len Tryd.underlying46 rfl rfl) rfl (fun a hF => ?_)
      refine n_q hF hS (q_gtr rfl rfl) rfl (fun a hF => ?_)
      refine hK41 _ _ ?_
      refine spd hF (s := 46) rfl (fun hc46 hF => ?_) (fun hc46 hF => ?_)
      · refine c_true hF rfl ?_
        refine wp_skip ?_
        refine hK40 _ _ ?_
        refine c_seq (fun K42 hK42 => ?_)
        refine c_block ?_
        refine c_reg ?_
        refine n_q hF hS (q_move rfl) rfl (fun a hF => ?_)
        refine n_q hF hS (q_move rfl) rfl (fun a hF => ?_)
        refine n_q hF hS (q_sliceP (h := 64) Tryd.underlying46 ty5 rfl rfl (by omega)) rfl (fun a hF => ?_)
        refine n_l rfl (fun K43 hK43 => l_callv en99 hF rfl rfl rfl (absorb_c b2 (absorbs (absorbs startV bs k) (padded bs) j) (((padded bs).drop (64 * j)).take 64) _ _ _ _ (absorbs_ok (absorbs_ok startV_ok _ _) _ _) rfl (by omega) _ _ (hS.hand1 (i := 0) rfl) hg (hjr.preB (by omega))) (fun v43 w hR a hF => ?_))
        obtain ⟨rfl, hc⟩ := hR
        replace hS := hS.callM (i := 0) (L' := []) rfl hc
        refine hK43 _ _ ?_
        refine hK42 _ _ ?_
        refine c_reg ?_
        refine n_q hF hS (q_move rfl) rfl (fun a hF => ?_)
        refine n_q hF hS (q_sliceF (l := 64) Tryd.underlying46 ty5 rfl rfl (by omega)) rfl (fun a hF => ?_)
        refine n_q hF hS (q_assign rfl) rfl (fun a hF => ?_)
        exact ⟨(j + 1, cutA ad2 (128 - 64 * j) 64 1), _, (by show m - 64 * (j + 1) < m - 64 * j; omega), hl3, hF.back ⟨by show some (Value.slice _ _ _) = some (Value.slice _ _ _); rw [show m - 64 * (j + 1) = m - 64 * j - 64 by omega, show 128 - 64 * (j + 1) = 128 - 64 * j - 64 by omega], trivial⟩ rfl (by repeat first | exact Ext.refl _ _ | refine Ext.rem' rfl ?_ | refine Ext.push rfl ?_), hS.lose (.refl _), ⟨by show 64 * (j + 1) ≤ m; omega, by have := hjr.fromB (c := 128 - 64 * j) (l := 64) (by omega) (by omega); rw [List.drop_drop] at this; rw [show m - 64 * (j + 1) = m - 64 * j - 64 by omega, show 64 * (j + 1) = 64 * j + 64 by omega]; exact this, hg⟩⟩
      · refine c_false hF rfl ?_
        refine c_exit ?_
        refine hK39 _ _ ?_
        refine c_seq (fun K44 hK44 => ?_)
        refine c_seq (fun K45 hK45 => ?_)
        refine c_reg ?_
        refine n_q hF hS (q_load0 ty164 rfl (i := 0) rfl rfl rfl) rfl (fun a hF => ?_)
        refine n_q hF hS (q_move rfl) rfl (fun a hF => ?_)
        refine hK45 _ _ ?_
        refine c_block ?_
        have hs : Lt32 (absorbs (absorbs startV bs k) (padded bs) j).l := absorbs_ok (absorbs_ok startV_ok _ _) _ _
        obtain ⟨s, hsd⟩ : ∃ s, s = absorbs (absorbs startV bs k) (padded bs) j := ⟨_, rfl⟩
        rw [← hsd] at hS hF hs
        refine c_loopL hF [7, 8, 54, 55, 56, 57, 58, 59, 60, 61, 62, 63, 64, 65, 66, 67]
          (fun i : Nat => [(54, .int .i64 (i : Int))])
          (fun i => [⟨b2, wc s.l, 164⟩, ⟨b1, bc (dK s.l i), 35⟩])
          (fun i _ => i ≤ 8)
          (fun i => 8 - i) (0) ⟨rfl, trivial⟩ ((by rw [dK_zero]; exact hS)) (Nat.zero_le _) ?_
        clear hF hS
        intro i a w H hle hF hS hJ
        replace hr := hr.mono hle
        replace hg := hg.mono hle
        have hl4 := Le.refl H
        try dsimp only at hF hJ hS
        refine c_seq (fun K46 hK46 => ?_)
        refine c_reg ?_
        refine n_q hF hS (q_lss rfl rfl) rfl (fun a hF => ?_)
        refine hK46 _ _ ?_
        refine c_seq (fun K47 hK47 => ?_)
        refine spd hF (s := 55) rfl (fun hc55 hF => ?_) (fun hc55 hF => ?_)
        · refine c_true hF rfl ?_
          refine wp_skip ?_
          refine hK47 _ _ ?_
          refine c_seq (fun K48 hK48 => ?_)
          refine c_block ?_
          refine c_seq (fun K49 hK49 => ?_)
          refine c_reg ?_
          refine n_q hF hS (q_move rfl) rfl (fun a hF => ?_)
          refine n_q hF hS (q_indexAgg (i := i) (cs := wc s.l) Tryd.underlying164 ty162 rfl rfl (by omega) (by rw [Nat.mul_one]; exact wc_ld2 (by show i < 8; omega))) rfl (fun a hF => ?_)
          refine n_q hF hS (q_assign rfl) rfl (fun a hF => ?_)
          refine n_q hF hS (q_assign rfl) rfl (fun a hF => ?_)
          refine hK49 _ _ ?_
          refine c_reg ?_
          refine n_q hF hS (q_move rfl) rfl (fun a hF => ?_)
          refine n_q hF hS (q_mulI rfl rfl (by omega)) rfl (fun a hF => ?_)
          refine n_q hF hS (q_move rfl) rfl (fun a hF => ?_)
          refine n_q hF hS (q_mulI rfl rfl (by omega)) rfl (fun a hF => ?_)
          refine n_q hF hS (q_addI rfl rfl (by omega)) rfl (fun a hF => ?_)
          refine n_q hF hS (q_sliceA (n := 32) (l := 4 * i) (h := 4 * i + 4) Tryd.underlying35 ty5 rfl ⟨_, rfl, by omega⟩ ⟨_, rfl, by omega⟩ (by omega)) rfl (fun a hF => ?_)
          refine n_q hF hS (q_move rfl) rfl (fun a hF => ?_)
          refine n_q hF hS (q_cv64 Tryd.underlying162 Tryd.underlying160 rfl (gt_lt_u64 hs i)) rfl (fun a hF => ?_)
          refine n_l rfl (fun K50 hK50 => l_call en100 hF rfl rfl (put_c b1 (0 + 4 * i * 1) (4 * i + 4 - 4 * i) _ (gt s.l i) _ _ (by omega) (by rw [bc_length, dK_length _ _ rfl (by omega)]; omega) (gt_lt_u64 hs i) _ _ (hS.hand1 (i := 1) rfl)) (fun v50 w hR a hF => ?_))
          obtain ⟨rfl, hc⟩ := hR
          replace hS := hS.callM (i := 1) (L' := []) rfl hc
          try dsimp only [List.set] at hS
          rw [Nat.mul_one, Nat.zero_add, Nat.add_sub_cancel_left, spl_bc, dK_succ _ _ rfl (by omega)] at hS
          refine hK50 _ _ ?_
          refine hK48 _ _ ?_
          refine c_reg ?_
          refine n_q hF hS (q_addI rfl rfl (by omega)) rfl (fun a hF => ?_)
          refine n_q hF hS (q_move rfl) rfl (fun a hF => ?_)
          exact ⟨i + 1, _, (by show 8 - (i + 1) < 8 - i; omega), hl4, hF.back ⟨rfl, trivial⟩ rfl (by repeat first | exact Ext.refl _ _ | refine Ext.rem' rfl ?_ | refine Ext.push rfl ?_), hS.lose (.refl _), (by omega)⟩
        · refine c_false hF rfl ?_
          refine c_exit ?_
          refine hK44 _ _ ?_
          refine c_seq (fun K51 hK51 => ?_)
          refine c_reg ?_
          have hi8 : i = 8 := by omega
          rw [hi8, dK_eight, hsd, sha_eq hpl (by omega) (by omega)] at hS
          rw [← dc_sha] at hS
          refine n_q hF hS (q_load0 ty35 rfl (i := 1) rfl (by simp [dc_length, List.length_replicate, List.length_cons, List.length_nil, List.length_append]) rfl) rfl (fun a hF => ?_)
          refine n_l rfl (fun K52 hK52 => l_store0A ty35 hF hS rfl rfl (i := 1) rfl (by simp [dc_length, List.length_replicate, List.length_cons, List.length_nil, List.length_append]) (by simp [dc_length, List.length_replicate, List.length_cons, List.length_nil, List.length_append]) (by first | exact dc_all1 _ | rfl | simp [all1]) (fun a w hF hS => hK52 _ _ ?_))
          refine hK51 _ _ ?_
          refine c_ret ?_
          repeat (first | refine ret_then ?_ | refine ret_blk ?_)
          refine c_ret' (P := Tryd.prog) (fn := Tryd.f65) rfl hF hS (.cell0 rfl ty35 (i := 1) rfl (by simp [dc_length, List.length_replicate, List.length_cons, List.length_nil, List.length_append]) rfl .nil) ⟨_, rfl, ?_⟩
          exact ⟨rfl, hS.same⟩
end Go.Proofs.YtneokajhmonpaaaDoor
namespace Go.Proofs.YtneokajhmonpaaaDoor
open Go Go.RowKit Go.W
set_option maxRecDepth 10000
namespace T11
theorem en26 : enS Tryd.prog 26 = true := by kernel_rfl
theorem en55 : enS Tryd.prog 55 = true := by kernel_rfl
theorem en65 : enS Tryd.prog 65 = true := by kernel_rfl
theorem ty5 : tyS Tryd.prog 5 = some (false, 1) := by kernel_rfl
theorem ty35 : tyS Tryd.prog 35 = some (true, 32) := by kernel_rfl
theorem ty46 : tyS Tryd.prog 46 = some (false, 1) := by kernel_rfl
theorem zr35 : zrS Tryd.prog 35 = some (List.replicate 32 (.int .u8 0)) := by kernel_rfl
theorem zr46 : zrS Tryd.prog 46 = some [.slice none 0 0] := by kernel_rfl
theorem mo : Tryd.prog.follows .mixedOrders = true := by kernel_rfl
end T11
open T11

theorem Tagged_c (s : ByteArray) (bs : List UInt8) (a0 : Option Addr) (n c : Nat) (hs : s.data.toList.length ≤ 1000) (hn : n ≤ 1099511000000) (hc0 : n ≤ c) (w : World) (H : Froz) (hz : Fz H w) (hg : Gl 0 1 H) (hr : RdS H a0 n 1 (bc bs)) :
    CallsR Tryd.prog 26 [.string s, .slice a0 n c] w fun v w' => v = .agg (dc (tagged s.data.toList bs)).toArray ∧ St ⟨w, H, []⟩ H [] w' := by
  refine calls_start Tryd.func26 rfl Tryd.ntmps26 rfl (fun a hF => ?_)
  have hS := St.start w H hz
  refine c_seq (fun K1 hK1 => ?_)
  refine c_reg ?_
  refine n_l rfl (fun K2 hK2 => l_alloc hF hS zr35 rfl (fun a w b1 hF hS => hK2 _ _ ?_))
  refine hK1 _ _ ?_
  refine c_seq (fun K3 hK3 => ?_)
  refine c_reg ?_
  refine n_q hF hS (q_move rfl) rfl (fun a hF => ?_)
  refine n_l rfl (fun K4 hK4 => l_convSB Tryd.underlying9 Tryd.underlying46 Tryd.underlying5 hF hS rfl rfl (fun a w H_r1_1 c_r1_1 ad_r1_1 hle_r1_1 hc_r1_1 r1_1 hF hS => ?_))
  replace hr := hr.mono hle_r1_1
  replace hg := hg.mono hle_r1_1
  refine hK4 _ _ ?_
  refine n_l rfl (fun K5 hK5 => l_call en65 hF rfl rfl (Sum_c _ _ _ _ (by omega) hc_r1_1 _ _ hS.fz hg r1_1) (fun v5 w hR a hF => ?_))
  obtain ⟨rfl, hc⟩ := hR
  replace hS := hS.call0 hc
  refine hK5 _ _ ?_
  refine n_l rfl (fun K6 hK6 => l_alloc hF hS zr35 rfl (fun a w b2 hF hS => hK6 _ _ ?_))
  refine n_l rfl (fun K7 hK7 => l_store0A ty35 hF hS rfl rfl (i := 0) rfl (by simp [dc_length, List.length_replicate, List.length_cons, List.length_nil, List.length_append]) (by simp [dc_length, List.length_replicate, List.length_cons, List.length_nil, List.length_append]) (by first | exact dc_all1 _ | rfl | simp [all1]) (fun a w hF hS => hK7 _ _ ?_))
  refine hK3 _ _ ?_
  refine c_seq (fun K8 hK8 => ?_)
  refine c_reg ?_
  obtain ⟨H_hfd, hH_hfd, hle_hfd, hS_hfd⟩ := hS.freeze' (i := 0) rfl
  replace hS := hS_hfd
  replace hr := hr.mono hle_hfd
  replace hg := hg.mono hle_hfd
  replace r1_1 := r1_1.mono hle_hfd
  have hfd : RdS H_hfd (some ⟨b2, 0, none⟩) 32 1 (bc (shaD s.data.toList).l) := by rw [hH_hfd]; exact frz_dc _
  refine n_q hF hS (q_sliceAll Tryd.underlying35 ty5 rfl (by decide)) rfl (fun a hF => ?_)
  refine n_q hF hS (q_move rfl) rfl (fun a hF => ?_)
  refine n_l rfl (fun K9 hK9 => l_buildF (els := [[_], [_]]) Tryd.underlying152 ty46 zr46 hF hS rfl rfl rfl (by simp [Value.cells, dc_length, List.length_replicate, List.length_cons, List.length_nil, List.length_append]) rfl rfl rfl (fun a w b3 hF hle hS r2_2 => ?_))
  replace hr := hr.mono hle
  replace hg := hg.mono hle
  replace r1_1 := r1_1.mono hle
  replace hfd := hfd.mono hle
  refine hK9 _ _ ?_
  refine n_l rfl (fun K10 hK10 => l_call en55 hF rfl rfl (Concat_c [⟨some ⟨b2, 0, none⟩, 32, 32, (shaD s.data.toList).l⟩, ⟨a0, n, c, bs⟩] _ _ (by simp) (by simp <;> omega) _ _ hS.fz r2_2 (fun s hs => by simp only [List.mem_cons, List.not_mem_nil, or_false] at hs; rcases hs with rfl | rfl; exact hfd; exact hr)) (fun v10 w hR a hF => ?_))
  obtain ⟨ad, cp, Lx, rfl, ho, hc⟩ := hR
  obtain ⟨H4, hle4, hS4, hr4⟩ := ho.freeze (hS.call hc)
  replace hS := hS4
  have hcp := ho.le
  replace hg := hg.mono hle4
  replace hr := hr.mono hle4
  refine hK10 _ _ ?_
  refine n_l rfl (fun K11 hK11 => l_call en65 hF rfl rfl (Sum_c ((shaD s.data.toList).l ++ bs) _ _ _ (by simp; omega) hcp _ _ hS.fz hg (by simpa using hr4)) (fun v11 w hR a hF => ?_))
  obtain ⟨rfl, hc⟩ := hR
  replace hS := hS.call0 hc
  refine hK11 _ _ ?_
  refine n_l rfl (fun K12 hK12 => l_store0A ty35 hF hS rfl rfl (i := 0) rfl (by simp [dc_length, List.length_replicate, List.length_cons, List.length_nil, List.length_append]) (by simp [dc_length, List.length_replicate, List.length_cons, List.length_nil, List.length_append]) (by first | exact dc_all1 _ | rfl | simp [all1]) (fun a w hF hS => hK12 _ _ ?_))
  refine hK8 _ _ ?_
  refine c_ret ?_
  repeat (first | refine ret_then ?_ | refine ret_blk ?_)
  refine c_ret' (P := Tryd.prog) (fn := Tryd.f26) rfl hF hS (.cell0 rfl ty35 (i := 0) rfl (by simp [dc_length, List.length_replicate, List.length_cons, List.length_nil, List.length_append]) rfl .nil) ⟨_, rfl, ?_⟩
  exact ⟨rfl, hS.same⟩

theorem DChain_c (e d : Dg) (w : World) (H : Froz) (hz : Fz H w) (hg : Gl 0 1 H) :
    CallsR Tryd.prog 19 [.agg (dc e).toArray, .agg (dc d).toArray] w fun v w' => v = .agg (dc (tagged [99, 104, 97, 105, 110] (e.l ++ d.l))).toArray ∧ St ⟨w, H, []⟩ H [] w' := by
  refine calls_start Tryd.func19 rfl Tryd.ntmps19 rfl (fun a hF => ?_)
  have hS := St.start w H hz
  refine c_seq (fun K1 hK1 => ?_)
  refine c_reg ?_
  refine n_l rfl (fun K2 hK2 => l_boxA hF hS rfl rfl (fun a w b1 hF hS => hK2 _ _ ?_))
  refine n_l rfl (fun K3 hK3 => l_boxA hF hS rfl rfl (fun a w b2 hF hS => hK3 _ _ ?_))
  refine n_l rfl (fun K4 hK4 => l_alloc hF hS zr35 rfl (fun a w b3 hF hS => hK4 _ _ ?_))
  refine hK1 _ _ ?_
  refine c_seq (fun K5 hK5 => ?_)
  obtain ⟨H_hfe, hH_hfe, hle_hfe, hS_hfe⟩ := hS.freeze' (i := 2) rfl
  replace hS := hS_hfe
  replace hg := hg.mono hle_hfe
  have hfe : RdS H_hfe (some ⟨b1, 0, none⟩) 32 1 (bc e.l) := by rw [hH_hfe]; exact frz_dc _
  obtain ⟨H_hfd, hH_hfd, hle_hfd, hS_hfd⟩ := hS.freeze' (i := 1) rfl
  replace hS := hS_hfd
  replace hg := hg.mono hle_hfd
  replace hfe := hfe.mono hle_hfd
  have hfd : RdS H_hfd (some ⟨b2, 0, none⟩) 32 1 (bc d.l) := by rw [hH_hfd]; exact frz_dc _
  refine r_start (fun L => L) [5] mo hS (fun w hS => ?_)
  refine r_q (i := 0) rfl (by kernel_rfl) (by kernel_rfl) rfl (by kernel_rfl) (fun _ _ _ _ h => h) hF hS (q_sliceAll Tryd.underlying35 ty5 rfl (by decide)) rfl (fun a hF => ?_)
  refine r_q (i := 1) rfl (by kernel_rfl) (by kernel_rfl) rfl (by kernel_rfl) (fun _ _ _ _ h => h) hF hS (q_sliceAll Tryd.underlying35 ty5 rfl (by decide)) rfl (fun a hF => ?_)
  refine r_one (i := 2) (by kernel_rfl) ?_
  have hsub := hS.sub
  refine r_li rfl rfl (fun K6 hK6 => l_buildF (els := [[_], [_]]) Tryd.underlying152 ty46 zr46 hF hS rfl rfl rfl (by simp [Value.cells, dc_length, List.length_replicate, List.length_cons, List.length_nil, List.length_append]) rfl rfl rfl (fun a w b4 hF hle hS r1_2 => ?_))
  replace hg := hg.mono hle
  replace hfe := hfe.mono hle
  replace hfd := hfd.mono hle
  refine hK6 _ _ _ hS (fun _ h => h.forget hsub hle) ?_
  refine r_one (i := 3) (by kernel_rfl) ?_
  have hsub := hS.sub
  refine r_li rfl rfl (fun K7 hK7 => l_call en55 hF rfl rfl (Concat_c [⟨some ⟨b1, 0, none⟩, 32, 32, e.l⟩, ⟨some ⟨b2, 0, none⟩, 32, 32, d.l⟩] _ _ (by simp) (by simp <;> omega) _ _ hS.fz r1_2 (fun s hs => by simp only [List.mem_cons, List.not_mem_nil, or_false] at hs; rcases hs with rfl | rfl; exact hfe; exact hfd)) (fun v7 w hR a hF => ?_))
  obtain ⟨ad, cp, Lx, rfl, ho, hc⟩ := hR
  obtain ⟨H4, hle4, hS4, hr4⟩ := ho.freeze (hS.call hc)
  replace hS := hS4
  have hcp := ho.le
  replace hg := hg.mono hle4
  refine hK7 _ _ _ hS (fun _ h => h.forget hsub hle4) ?_
  refine r_one (i := 4) (by kernel_rfl) ?_
  have hsub := hS.sub
  refine r_li rfl rfl (fun K8 hK8 => l_call en26 hF rfl rfl (Tagged_c _ (e.l ++ d.l) _ _ _ (by decide) (by simp) hcp _ _ hS.fz hg (by simpa using hr4)) (fun v8 w hR a hF => ?_))
  obtain ⟨rfl, hc⟩ := hR
  replace hS := hS.call0 hc
  refine hK8 _ _ _ hS (fun _ h => h) ?_
  refine r_one (i := 5) (by kernel_rfl) ?_
  refine r_lL rfl rfl rfl (fun K9 hK9 => l_store0A ty35 hF hS rfl rfl (i := 0) rfl (by simp [dc_length, List.length_replicate, List.length_cons, List.length_nil, List.length_append]) (by simp [dc_length, List.length_replicate, List.length_cons, List.length_nil, List.length_append]) (by first | exact dc_all1 _ | rfl | simp [all1]) (fun a w hF hS => hK9 _ _ ?_))
  refine r_done (by kernel_rfl) ?_
  refine hK5 _ _ ?_
  refine c_ret ?_
  repeat (first | refine ret_then ?_ | refine ret_blk ?_)
  refine c_ret' (P := Tryd.prog) (fn := Tryd.f19) rfl hF hS (.cell0 rfl ty35 (i := 0) rfl (by simp [dc_length, List.length_replicate, List.length_cons, List.length_nil, List.length_append]) rfl .nil) ⟨_, rfl, ?_⟩
  exact ⟨rfl, hS.same⟩
end Go.Proofs.YtneokajhmonpaaaDoor
