/-
  A part of the proof of LanesNone: joined by a program out of: WgA WgB WgC Lib.
-/
import Derived.Test.YtmkjoojoaldljaaKNA
import Derived.Test.YtmkjoojoaldljaaChecked
namespace Go.Proofs.Ytmkjoojoaldljaa.Net
open Go.Conc Go.RowKit Go.Conc.Lib Go.ConcR.Gen
open Go.ConcN (WgLive st_flag st_waiters)
open Go.ConcR (KK wgBlock WgAt stA smA rd wr mk DC0)
variable {L : WgLink} {P : Program} {R : World → World → Prop} {wg : Nat}
theorem live_rely (hR : ∀ w w', R w w' → WgLive L.tWg wg w → WgLive L.tWg wg w') {w w₁ : World} (h : WgLive L.tWg wg w) (r : R w w₁) : WgLive L.tWg wg w₁ := hR _ _ r h
theorem live0 {ty : TypeId} {w : World} (h : WgLive ty wg w) : ∃ v, w.cell? ⟨wg, 0, none⟩ = some v := let ⟨_, _, x⟩ := h; ⟨_, x.cellSt⟩
theorem live1 {ty : TypeId} {w : World} (h : WgLive ty wg w) : ∃ v, w.cell? ⟨wg, 1, none⟩ = some v := let ⟨_, _, x⟩ := h; ⟨_, x.cellSm⟩
set_option maxRecDepth 100000 in
set_option maxHeartbeats 8000000 in
theorem net_addNeg (H : WgLib P L) (hR : ∀ w w', R w w' → WgLive L.tWg wg w → WgLive L.tWg wg w') {b₀ : Frame} {a₀ : Act} {ops₀ : Array Oper} {i₀ : Nat} {rest₀ : List Nat} {k₀ : List Item} {cs : List Frame} {qt : Nat}
    (hT : QuitsD P qt 0 (G (b₀.at (a₀.put ((ops₀[i₀]?).bind (·.dst)) (.tuple #[])) (.inRegion ops₀ rest₀ :: k₀)) cs)) (w : World) (hK : WgLive L.tWg wg w) :
    Goes P false R DC0 (AtR0 P L.tWg R wg) 20 (G ((base L.add).at ⟨#[.pointer (some ⟨wg, 0, none⟩), .int .i64 (-1), undef, undef, undef, undef, undef, undef, undef, undef, undef, undef, undef, undef, undef, undef, undef, undef, undef, undef, undef, undef, undef, undef, undef, undef, undef, undef, undef, undef, undef, undef, undef, undef, undef, undef, undef, undef, undef, undef, undef, undef, undef, undef, undef, undef, undef, undef, undef, undef, undef, undef, undef, undef, undef, undef, undef, undef, undef, undef, undef, undef, undef, undef, undef, undef, undef, undef, undef, undef, undef, undef, undef, undef, undef, undef, undef, undef, undef, undef, undef, undef, undef, undef, undef, undef, undef, undef, undef, undef, undef, undef, undef, undef, undef, undef, undef, undef, undef, undef, undef, undef, undef, undef, undef, undef, undef, undef, undef, undef, undef, undef, undef, undef, undef, undef, undef], []⟩ [.code ((addFn L).body.getD .skip)]) (b₀.at a₀ (.inRegion ops₀ (i₀ :: rest₀) :: k₀) :: cs)) w := by
  lib_facts
  simp only [addFn, Option.getD_some]
  u_c stepG_seq (live_rely hR) hK
  u_cond true (live_rely hR) hK
  u_c stepG_seq (live_rely hR) hK
  u_c stepG_seq (live_rely hR) hK
  u_reg (live_rely hR) hK
  u_op (live_rely hR) hK
  u_op (live_rely hR) hK
  u_c stepG_region_end (live_rely hR) hK
  u_cond true (live_rely hR) hK
  u_reg (live_rely hR) hK
  u_op (live_rely hR) hK
  u_conv H.underlying_tWgP H.room_tWg (live0 hK).choose_spec (live_rely hR) hK
  refine Goes.stop (fun w₁ h₁ => ?_)
  replace hK := live_rely hR hK h₁
  clear h₁
  refine ⟨rfl, _, stepG_markAt .releaseMerge (by simp) rfl rfl (by k_ne) rfl H.f_relMerge (x_relMerge_n L) (x_relMerge_b L) (x_relMerge_x L) (x_relMerge_f L) (by simp [Act.eval, stA]), 10, ?_⟩
  walk_nrm
  u_c stepG_region_end (live_rely hR) hK
  u_c stepG_seq (live_rely hR) hK
  u_reg (live_rely hR) hK
  refine Goes.stop (fun w₁ h₁ => ?_)
  replace hK := live_rely hR hK h₁
  clear h₁
  refine ⟨rfl, _, stepG_mark0 .disable (by simp) rfl rfl (by k_ne) rfl H.f_disable (x_disable_n L) (x_disable_b L) (x_disable_x L) (x_disable_f L), 50, ?_⟩
  walk_nrm
  u_c stepG_region_end (live_rely hR) hK
  u_reg (live_rely hR) hK
  u_defer (live_rely hR) hK
  u_c stepG_region_end (live_rely hR) hK
  u_c stepG_seq (live_rely hR) hK
  u_reg (live_rely hR) hK
  u_op (live_rely hR) hK
  u_c stepG_region_end (live_rely hR) hK
  u_c stepG_seq (live_rely hR) hK
  u_c stepG_seq (live_rely hR) hK
  u_reg (live_rely hR) hK
  u_bub (live_rely hR) hK
  u_c stepG_region_end (live_rely hR) hK
  u_cond false (live_rely hR) hK
  u_c stepG_skip (live_rely hR) hK
  u_c stepG_seq (live_rely hR) hK
  u_reg (live_rely hR) hK
  u_op (live_rely hR) hK
  u_op (live_rely hR) hK
  u_op (live_rely hR) hK
  u_op (live_rely hR) hK
  u_op (live_rely hR) hK
  u_op (live_rely hR) hK
  u_call H.f_uAdd (nm_uAdd L) uAddFn (live_rely hR) hK
  u_c stepG_seq (live_rely hR) hK
  u_reg (live_rely hR) hK
  u_op (live_rely hR) hK
  u_c stepG_region_end (live_rely hR) hK
  u_c stepG_seq (live_rely hR) hK
  u_reg (live_rely hR) hK
  u_op (live_rely hR) hK
  u_op (live_rely hR) hK
  u_op (live_rely hR) hK
  u_op (live_rely hR) hK
  refine Goes.stop (fun w₁ h₁ => ?_)
  clear h₁ hK
  refine ⟨rfl, fun v wt hwt hv hw => ?_⟩
  have e0 : IntKind.u64.wrap (KK + 18446744069414584320) = 0 := by decide
  have e1 : IntKind.u64.wrap (KK + 1 + 18446744069414584320) = 1 := by decide
  rcases Nat.eq_zero_or_pos v with rfl | hvp <;> (obtain rfl | rfl : wt = 0 ∨ wt = 1 := by omega)
  ·
    replace hw : WgAt L.tWg wg w₁ KK 0 := by simpa using hw
    have z : ((0 : Nat) : Int) * KK + ((0 : Nat) : Int) = 0 := by simp
    rw [z]
    refine ⟨_, (stepG_add_atomic rfl rfl (by k_ne) rfl H.f_addU64 (x_addU64_n L) (x_addU64_b L) (x_addU64_x L) .u64 (x_addU64_f L) rfl rfl hw.cellSt (hw.thaw 0)).trans (by rw [e0]; rfl), fun hl => absurd hl.2 (by decide), fun _ => ⟨qt + 89, ?_⟩⟩
    clear hw
    walk_nrm
    q_val (.int .u64 0)
    q_c stepG_region_end
    q_c stepG_ret'
    q_leave1 H.f_uAdd
    q_val (.int .u64 0)
    q_c stepG_region_end
    q_c stepG_seq
    q_c stepG_seq
    q_reg
    q_val (.int .u64 0)
    q_val (.int .u64 0)
    q_val (.bool false)
    q_val (.bool false)
    q_skip
    q_skip
    q_val (.bool false)
    q_c stepG_region_end
    q_cond false
    q_c stepG_skip
    q_c stepG_seq
    q_reg
    q_val (.int .u64 0)
    q_val (.int .u64 0)
    q_val (.int .i32 0)
    q_val (.int .i32 0)
    q_c stepG_region_end
    q_c stepG_seq
    q_reg
    q_val (.int .u64 0)
    q_val (.int .u64 0)
    q_val (.int .u32 0)
    q_val (.int .u32 0)
    q_c stepG_region_end
    q_c stepG_seq
    q_c stepG_seq
    q_reg
    q_val (.bool true)
    q_val (.int .i64 (-1))
    q_val (.bool false)
    q_val (.bool false)
    q_val (.bool false)
    q_skip
    q_skip
    q_skip
    q_skip
    q_val (.bool false)
    q_c stepG_region_end
    q_cond false
    q_c stepG_skip
    q_c stepG_seq
    q_c stepG_seq
    q_reg
    q_val (.int .i32 0)
    q_val (.bool false)
    q_c stepG_region_end
    q_cond false
    q_c stepG_skip
    q_c stepG_seq
    q_c stepG_seq
    q_reg
    q_val (.int .u32 0)
    q_val (.bool false)
    q_val (.bool false)
    q_skip
    q_skip
    q_val (.bool false)
    q_val (.bool false)
    q_skip
    q_skip
    q_skip
    q_skip
    q_val (.bool false)
    q_c stepG_region_end
    q_cond false
    q_c stepG_skip
    q_c stepG_seq
    q_c stepG_seq
    q_reg
    q_val (.int .i32 0)
    q_val (.bool false)
    q_val (.bool false)
    q_val (.int .u32 0)
    q_val (.bool true)
    q_val (.bool true)
    q_c stepG_region_end
    q_cond true
    q_c stepG_ret'
    q_enable
    q_leave0 H.f_add
    exact hT
  ·
    replace hw : WgAt L.tWg wg w₁ (KK + 1) 0 := by simpa using hw
    have z : ((0 : Nat) : Int) * KK + ((1 : Nat) : Int) = 1 := by simp
    rw [z]
    refine ⟨_, (stepG_add_atomic rfl rfl (by k_ne) rfl H.f_addU64 (x_addU64_n L) (x_addU64_b L) (x_addU64_x L) .u64 (x_addU64_f L) rfl rfl hw.cellSt (hw.thaw 0)).trans (by rw [e1]; rfl), fun _ => ⟨120, ?_⟩, fun hl => absurd ⟨rfl, rfl⟩ hl⟩
    have hF : WgLive L.tWg wg (w₁.setCell (stA wg) (.int .u64 1)) := ⟨_, _, hw.setSt 1⟩
    clear hw
    walk_nrm
    u_op (live_rely hR) hF
    u_c stepG_region_end (live_rely hR) hF
    u_c stepG_ret' (live_rely hR) hF
    u_leave1 H.f_uAdd (live_rely hR) hF
    u_op (live_rely hR) hF
    u_c stepG_region_end (live_rely hR) hF
    u_c stepG_seq (live_rely hR) hF
    u_c stepG_seq (live_rely hR) hF
    u_reg (live_rely hR) hF
    u_op (live_rely hR) hF
    u_op (live_rely hR) hF
    u_op (live_rely hR) hF
    u_op (live_rely hR) hF
    u_skip (live_rely hR) hF
    u_skip (live_rely hR) hF
    u_op (live_rely hR) hF
    u_c stepG_region_end (live_rely hR) hF
    u_cond false (live_rely hR) hF
    u_c stepG_skip (live_rely hR) hF
    u_c stepG_seq (live_rely hR) hF
    u_reg (live_rely hR) hF
    u_op (live_rely hR) hF
    u_op (live_rely hR) hF
    u_op (live_rely hR) hF
    u_op (live_rely hR) hF
    u_c stepG_region_end (live_rely hR) hF
    u_c stepG_seq (live_rely hR) hF
    u_reg (live_rely hR) hF
    u_op (live_rely hR) hF
    u_op (live_rely hR) hF
    u_op (live_rely hR) hF
    u_op (live_rely hR) hF
    u_c stepG_region_end (live_rely hR) hF
    u_c stepG_seq (live_rely hR) hF
    u_c stepG_seq (live_rely hR) hF
    u_reg (live_rely hR) hF
    u_op (live_rely hR) hF
    u_op (live_rely hR) hF
    u_op (live_rely hR) hF
    u_op (live_rely hR) hF
    u_op (live_rely hR) hF
    u_skip (live_rely hR) hF
    u_skip (live_rely hR) hF
    u_skip (live_rely hR) hF
    u_skip (live_rely hR) hF
    u_op (live_rely hR) hF
    u_c stepG_region_end (live_rely hR) hF
    u_cond false (live_rely hR) hF
    u_c stepG_skip (live_rely hR) hF
    u_c stepG_seq (live_rely hR) hF
    u_c stepG_seq (live_rely hR) hF
    u_reg (live_rely hR) hF
    u_op (live_rely hR) hF
    u_op (live_rely hR) hF
    u_c stepG_region_end (live_rely hR) hF
    u_cond false (live_rely hR) hF
    u_c stepG_skip (live_rely hR) hF
    u_c stepG_seq (live_rely hR) hF
    u_c stepG_seq (live_rely hR) hF
    u_reg (live_rely hR) hF
    u_op (live_rely hR) hF
    u_op (live_rely hR) hF
    u_op (live_rely hR) hF
    u_op (live_rely hR) hF
    u_op (live_rely hR) hF
    u_op (live_rely hR) hF
    u_op (live_rely hR) hF
    u_skip (live_rely hR) hF
    u_skip (live_rely hR) hF
    u_skip (live_rely hR) hF
    u_skip (live_rely hR) hF
    u_op (live_rely hR) hF
    u_c stepG_region_end (live_rely hR) hF
    u_cond false (live_rely hR) hF
    u_c stepG_skip (live_rely hR) hF
    u_c stepG_seq (live_rely hR) hF
    u_c stepG_seq (live_rely hR) hF
    u_reg (live_rely hR) hF
    u_op (live_rely hR) hF
    u_op (live_rely hR) hF
    u_op (live_rely hR) hF
    u_op (live_rely hR) hF
    u_op (live_rely hR) hF
    u_op (live_rely hR) hF
    u_c stepG_region_end (live_rely hR) hF
    u_cond false (live_rely hR) hF
    u_c stepG_skip (live_rely hR) hF
    u_c stepG_seq (live_rely hR) hF
    u_c stepG_seq (live_rely hR) hF
    u_reg (live_rely hR) hF
    u_op (live_rely hR) hF
    u_op (live_rely hR) hF
    u_op (live_rely hR) hF
    u_call H.f_uLoad (nm_uLoad L) uLoadFn (live_rely hR) hF
    u_c stepG_seq (live_rely hR) hF
    u_reg (live_rely hR) hF
    u_op (live_rely hR) hF
    u_c stepG_region_end (live_rely hR) hF
    u_c stepG_seq (live_rely hR) hF
    u_reg (live_rely hR) hF
    u_op (live_rely hR) hF
    u_op (live_rely hR) hF
    u_op (live_rely hR) hF
    refine Goes.stop (fun w₂ h₂ => ?_)
    clear h₂ hF
    refine ⟨rfl, fun hw => ⟨_, stepG_load_atomic rfl rfl (by k_ne) rfl H.f_loadU64 (x_loadU64_n L) (x_loadU64_b L) (x_loadU64_x L) .u64 (x_loadU64_f L) rfl hw.cellSt, 40, ?_⟩⟩
    have hF : WgLive L.tWg wg w₂ := ⟨_, _, hw⟩
    clear hw
    walk_nrm
    u_op (live_rely hR) hF
    u_c stepG_region_end (live_rely hR) hF
    u_c stepG_ret' (live_rely hR) hF
    u_leave1 H.f_uLoad (live_rely hR) hF
    u_op (live_rely hR) hF
    u_op (live_rely hR) hF
    u_c stepG_region_end (live_rely hR) hF
    u_cond false (live_rely hR) hF
    u_c stepG_skip (live_rely hR) hF
    u_c stepG_seq (live_rely hR) hF
    u_reg (live_rely hR) hF
    u_op (live_rely hR) hF
    u_op (live_rely hR) hF
    u_op (live_rely hR) hF
    u_call H.f_uStore (nm_uStore L) uStoreFn (live_rely hR) hF
    u_reg (live_rely hR) hF
    u_op (live_rely hR) hF
    u_op (live_rely hR) hF
    u_op (live_rely hR) hF
    u_op (live_rely hR) hF
    refine Goes.stop (fun w₃ h₃ => ?_)
    clear h₃ hF
    refine ⟨rfl, fun hw => ⟨_, stepG_store_atomic rfl rfl (by k_ne) rfl H.f_storeU64 (x_storeU64_n L) (x_storeU64_b L) (x_storeU64_x L) (x_storeU64_f L) rfl rfl hw.cellSt (hw.thaw 0), 50, ?_⟩⟩
    have hF : WgLive L.tWg wg (w₃.setCell (stA wg) (.int .u64 0)) := ⟨_, _, hw.setSt 0⟩
    clear hw
    walk_nrm
    u_c stepG_region_end (live_rely hR) hF
    u_c stepG_end (live_rely hR) hF
    u_leave0 H.f_uStore (live_rely hR) hF
    u_c stepG_region_end (live_rely hR) hF
    u_c stepG_seq (live_rely hR) hF
    u_c stepG_seq (live_rely hR) hF
    u_reg (live_rely hR) hF
    u_op (live_rely hR) hF
    u_c stepG_region_end (live_rely hR) hF
    u_cond false (live_rely hR) hF
    u_c stepG_skip (live_rely hR) hF
    u_c stepG_block (live_rely hR) hF
    u_c stepG_loop (live_rely hR) hF
    u_c stepG_seq (live_rely hR) hF
    u_c stepG_seq (live_rely hR) hF
    u_reg (live_rely hR) hF
    u_op (live_rely hR) hF
    u_op (live_rely hR) hF
    u_c stepG_region_end (live_rely hR) hF
    u_cond true (live_rely hR) hF
    u_c stepG_skip (live_rely hR) hF
    u_c stepG_seq (live_rely hR) hF
    u_c stepG_block (live_rely hR) hF
    u_reg (live_rely hR) hF
    u_op (live_rely hR) hF
    u_op (live_rely hR) hF
    u_op (live_rely hR) hF
    refine Goes.stop (fun w₄ h₄ => ?_)
    clear h₄ hF
    refine ⟨rfl, mayWake_entry rfl rfl H.f_semrelease (x_semrelease_b L), fun hw => ⟨_, (stepG_semrelease rfl rfl (by k_ne) rfl H.f_semrelease (x_semrelease_n L) (x_semrelease_b L) (x_semrelease_x L) (x_semrelease_f L) (by simp [Act.eval, smA]) hw.cellSm (hw.thaw 1)).trans (by rfl), qt + 19, ?_⟩⟩
    clear hw
    walk_nrm
    q_c stepG_region_end
    q_c stepG_inBlock
    q_reg
    q_val (.int .u32 1)
    q_val (.int .u32 0)
    q_val (.int .u32 0)
    q_c stepG_region_end
    q_c stepG_inLoop
    q_c stepG_seq
    q_c stepG_seq
    q_reg
    q_val (.int .u32 0)
    q_val (.bool false)
    q_c stepG_region_end
    q_cond false
    q_exit
    q_c stepG_end
    q_enable
    q_leave0 H.f_add
    exact hT
  ·
    replace hw : WgAt L.tWg wg w₁ (((v : Nat) + 1) * KK + 0) 0 := by simpa using hw
    have z : ((v : Nat) : Int) * KK + ((0 : Nat) : Int) = (v : Int) * KK + 0 := by simp
    rw [z]
    have hv0 : 0 < v := by omega
    have eS : IntKind.u64.wrap (((v : Nat) + 1) * KK + 0 + 18446744069414584320) = (v : Int) * KK + 0 := by rw [IntKind.wrap_u64]; simp only [KK]; omega
    obtain ⟨S, hS⟩ : ∃ S : Int, S = (v : Int) * KK + 0 := ⟨_, rfl⟩
    rw [← hS] at eS ⊢
    have a1 : S / 4294967296 = (v : Int) := by rw [hS]; simp only [KK]; omega
    have a2 : 0 ≤ S ∧ S < 9223372036854775808 := by rw [hS]; simp only [KK]; omega
    have b1 : bits .and .u64 S 2147483648 = 0 := by rw [hS]; have := st_flag v 0 (by omega) (by omega); simpa [KK] using this
    have b2 : bits .and .u64 S 2147483647 = 0 := by rw [hS]; have := st_waiters v 0 (by omega) (by omega); simpa [KK] using this
    clear hS z
    refine ⟨_, (stepG_add_atomic rfl rfl (by k_ne) rfl H.f_addU64 (x_addU64_n L) (x_addU64_b L) (x_addU64_x L) .u64 (x_addU64_f L) rfl rfl hw.cellSt (hw.thaw 0)).trans (by rw [eS]; rfl), fun hl => absurd hl.1 (by omega), fun _ => ⟨qt + 89, ?_⟩⟩
    clear hw
    walk_nrm
    q_vn (.int .u64 S)
    q_c stepG_region_end
    q_c stepG_ret'
    q_leave1 H.f_uAdd
    q_vn (.int .u64 S)
    q_c stepG_region_end
    q_c stepG_seq
    q_c stepG_seq
    q_reg
    q_vn (.int .u64 S)
    q_vn (.int .u64 0)
    q_vn (.bool false)
    q_vn (.bool false)
    q_skip
    q_skip
    q_vn (.bool false)
    q_c stepG_region_end
    q_cond false
    q_c stepG_skip
    q_c stepG_seq
    q_reg
    q_vn (.int .u64 S)
    q_vn (.int .u64 (v : Int))
    q_vn (.int .i32 (v : Int))
    q_vn (.int .i32 (v : Int))
    q_c stepG_region_end
    q_c stepG_seq
    q_reg
    q_vn (.int .u64 S)
    q_vn (.int .u64 0)
    q_vn (.int .u32 0)
    q_vn (.int .u32 0)
    q_c stepG_region_end
    q_c stepG_seq
    q_c stepG_seq
    q_reg
    q_vn (.bool true)
    q_vn (.int .i64 (-1))
    q_vn (.bool false)
    q_vn (.bool false)
    q_vn (.bool false)
    q_skip
    q_skip
    q_skip
    q_skip
    q_vn (.bool false)
    q_c stepG_region_end
    q_cond false
    q_c stepG_skip
    q_c stepG_seq
    q_c stepG_seq
    q_reg
    q_vn (.int .i32 (v : Int))
    q_vn (.bool false)
    q_c stepG_region_end
    q_cond false
    q_c stepG_skip
    q_c stepG_seq
    q_c stepG_seq
    q_reg
    q_vn (.int .u32 0)
    q_vn (.bool false)
    q_vn (.bool false)
    q_skip
    q_skip
    q_vn (.bool false)
    q_vn (.bool false)
    q_skip
    q_skip
    q_skip
    q_skip
    q_vn (.bool false)
    q_c stepG_region_end
    q_cond false
    q_c stepG_skip
    q_c stepG_seq
    q_c stepG_seq
    q_reg
    q_vn (.int .i32 (v : Int))
    q_vn (.bool true)
    q_vn (.bool true)
    q_skip
    q_skip
    q_vn (.bool true)
    q_c stepG_region_end
    q_cond true
    q_c stepG_ret'
    q_enable
    q_leave0 H.f_add
    exact hT
  ·
    replace hw : WgAt L.tWg wg w₁ (((v : Nat) + 1) * KK + 1) 0 := by simpa using hw
    have z : ((v : Nat) : Int) * KK + ((1 : Nat) : Int) = (v : Int) * KK + 1 := by simp
    rw [z]
    have hv0 : 0 < v := by omega
    have eS : IntKind.u64.wrap (((v : Nat) + 1) * KK + 1 + 18446744069414584320) = (v : Int) * KK + 1 := by rw [IntKind.wrap_u64]; simp only [KK]; omega
    obtain ⟨S, hS⟩ : ∃ S : Int, S = (v : Int) * KK + 1 := ⟨_, rfl⟩
    rw [← hS] at eS ⊢
    have a1 : S / 4294967296 = (v : Int) := by rw [hS]; simp only [KK]; omega
    have a2 : 0 ≤ S ∧ S < 9223372036854775808 := by rw [hS]; simp only [KK]; omega
    have b1 : bits .and .u64 S 2147483648 = 0 := by rw [hS]; have := st_flag v 1 (by omega) (by omega); simpa [KK] using this
    have b2 : bits .and .u64 S 2147483647 = 1 := by rw [hS]; have := st_waiters v 1 (by omega) (by omega); simpa [KK] using this
    clear hS z
    refine ⟨_, (stepG_add_atomic rfl rfl (by k_ne) rfl H.f_addU64 (x_addU64_n L) (x_addU64_b L) (x_addU64_x L) .u64 (x_addU64_f L) rfl rfl hw.cellSt (hw.thaw 0)).trans (by rw [eS]; rfl), fun hl => absurd hl.1 (by omega), fun _ => ⟨qt + 89, ?_⟩⟩
    clear hw
    walk_nrm
    q_vn (.int .u64 S)
    q_c stepG_region_end
    q_c stepG_ret'
    q_leave1 H.f_uAdd
    q_vn (.int .u64 S)
    q_c stepG_region_end
    q_c stepG_seq
    q_c stepG_seq
    q_reg
    q_vn (.int .u64 S)
    q_vn (.int .u64 0)
    q_vn (.bool false)
    q_vn (.bool false)
    q_skip
    q_skip
    q_vn (.bool false)
    q_c stepG_region_end
    q_cond false
    q_c stepG_skip
    q_c stepG_seq
    q_reg
    q_vn (.int .u64 S)
    q_vn (.int .u64 (v : Int))
    q_vn (.int .i32 (v : Int))
    q_vn (.int .i32 (v : Int))
    q_c stepG_region_end
    q_c stepG_seq
    q_reg
    q_vn (.int .u64 S)
    q_vn (.int .u64 1)
    q_vn (.int .u32 1)
    q_vn (.int .u32 1)
    q_c stepG_region_end
    q_c stepG_seq
    q_c stepG_seq
    q_reg
    q_vn (.bool true)
    q_vn (.int .i64 (-1))
    q_vn (.bool false)
    q_vn (.bool false)
    q_vn (.bool false)
    q_skip
    q_skip
    q_skip
    q_skip
    q_vn (.bool false)
    q_c stepG_region_end
    q_cond false
    q_c stepG_skip
    q_c stepG_seq
    q_c stepG_seq
    q_reg
    q_vn (.int .i32 (v : Int))
    q_vn (.bool false)
    q_c stepG_region_end
    q_cond false
    q_c stepG_skip
    q_c stepG_seq
    q_c stepG_seq
    q_reg
    q_vn (.int .u32 1)
    q_vn (.bool true)
    q_vn (.bool true)
    q_vn (.int .i64 (-1))
    q_vn (.bool false)
    q_vn (.bool false)
    q_vn (.bool false)
    q_skip
    q_skip
    q_skip
    q_skip
    q_vn (.bool false)
    q_c stepG_region_end
    q_cond false
    q_c stepG_skip
    q_c stepG_seq
    q_c stepG_seq
    q_reg
    q_vn (.int .i32 (v : Int))
    q_vn (.bool true)
    q_vn (.bool true)
    q_skip
    q_skip
    q_vn (.bool true)
    q_c stepG_region_end
    q_cond true
    q_c stepG_ret'
    q_enable
    q_leave0 H.f_add
    exact hT
set_option maxRecDepth 100000 in
set_option maxHeartbeats 8000000 in
theorem net_done (H : WgLib P L) (hR : ∀ w w', R w w' → WgLive L.tWg wg w → WgLive L.tWg wg w') {c : Frame} {cs : List Frame} {qt : Nat}
    (hcm : c.mode = .returning) (hT : QuitsD P qt 0 (G c cs)) (w : World) (hK : WgLive L.tWg wg w) :
    Goes P false R DC0 (AtR0 P L.tWg R wg) 23 (G ((baseD L.done).at ⟨#[.pointer (some ⟨wg, 0, none⟩), undef, undef, undef], []⟩ [.code ((doneFn L).body.getD .skip)]) (c :: cs)) w := by
  lib_facts
  have hA := @net_addNeg L P R wg H hR
  simp only [doneFn, addFn, Option.getD_some] at hA ⊢
  u_reg (live_rely hR) hK
  u_op (live_rely hR) hK
  u_in (live_rely hR) hK
  refine goes_call rfl rfl (by k_ne) rfl H.f_add (nm_add L) rfl ⟨by u_nil, ?_⟩
  walk_nrmf addFn
  refine hA (qt := qt + 3) ?_ _ hK
  q_c stepG_region_end
  q_c stepG_end
  exact QuitsD.leaveD rfl rfl H.f_done rfl hcm hT
end Go.Proofs.Ytmkjoojoaldljaa.Net
namespace Go.Proofs.Ytmkjoojoaldljaa.Net
open Go.Conc Go.RowKit Go.Conc.Lib Go.ConcR.Gen
open Go.ConcN (WgLive st_flag st_waiters)
open Go.ConcR (KK wgBlock WgAt stA smA rd wr mk DC0)
variable {L : WgLink} {P : Program} {R : World → World → Prop} {wg : Nat} {F : World → Prop}
theorem fl2 (hR : ∀ w w', R w w' → WgLive L.tWg wg w → WgLive L.tWg wg w') (hFR : ∀ w w', R w w' → F w → F w') {w w₁ : World} (h : F w ∧ WgLive L.tWg wg w) (r : R w w₁) : F w₁ ∧ WgLive L.tWg wg w₁ := ⟨hFR _ _ r h.1, hR _ _ r h.2⟩
set_option maxRecDepth 100000 in
set_option maxHeartbeats 8000000 in
theorem net_addPos (H : WgLib P L) {main : Bool} {Next : Goroutine → World → Prop} {d : Nat} {D : Int} (hD : (d : Int) = D) (hd : 1 ≤ d) (hd' : d < 2147483648)
    (hR : ∀ w w', R w w' → WgLive L.tWg wg w → WgLive L.tWg wg w') (hFR : ∀ w w', R w w' → F w → F w') (hFs : ∀ w a u, a.block = wg → WgLive L.tWg wg (w.setCell a u) → F w → F (w.setCell a u))
    {b₀ : Frame} {a₀ : Act} {ops₀ : Array Oper} {i₀ : Nat} {rest₀ : List Nat} {k₀ : List Item} {cs : List Frame} {mT : Nat}
    (hT : ∀ w, F w → WgLive L.tWg wg w → Goes P main R DC0 Next mT (G (b₀.at (a₀.put ((ops₀[i₀]?).bind (·.dst)) (.tuple #[])) (.inRegion ops₀ rest₀ :: k₀)) cs) w)
    (w : World) (hF : F w ∧ WgLive L.tWg wg w) :
    Goes P main R DC0 (AtA0 P L.tWg main R wg d Next) 12 (G ((base L.add).at ⟨#[.pointer (some ⟨wg, 0, none⟩), .int .i64 D, undef, undef, undef, undef, undef, undef, undef, undef, undef, undef, undef, undef, undef, undef, undef, undef, undef, undef, undef, undef, undef, undef, undef, undef, undef, undef, undef, undef, undef, undef, undef, undef, undef, undef, undef, undef, undef, undef, undef, undef, undef, undef, undef, undef, undef, undef, undef, undef, undef, undef, undef, undef, undef, undef, undef, undef, undef, undef, undef, undef, undef, undef, undef, undef, undef, undef, undef, undef, undef, undef, undef, undef, undef, undef, undef, undef, undef, undef, undef, undef, undef, undef, undef, undef, undef, undef, undef, undef, undef, undef, undef, undef, undef, undef, undef, undef, undef, undef, undef, undef, undef, undef, undef, undef, undef, undef, undef, undef, undef, undef, undef, undef, undef, undef, undef], []⟩ [.code ((addFn L).body.getD .skip)]) (b₀.at a₀ (.inRegion ops₀ (i₀ :: rest₀) :: k₀) :: cs)) w := by
  have d1 : decide (D < 0) = false := decide_eq_false (by omega)
  have d2 : decide (0 < D) = true := decide_eq_true (by omega)
  have d3 : IntKind.i32.wrap D = D := by rw [IntKind.wrap_i32]; omega
  lib_facts
  simp only [addFn, Option.getD_some]
  u_c stepG_seq (fl2 hR hFR) hF
  u_cond true (fl2 hR hFR) hF
  u_c stepG_seq (fl2 hR hFR) hF
  u_c stepG_seq (fl2 hR hFR) hF
  u_reg (fl2 hR hFR) hF
  u_op (fl2 hR hFR) hF
  u_op (fl2 hR hFR) hF
  u_c stepG_region_end (fl2 hR hFR) hF
  u_cnd false (fl2 hR hFR) hF
  u_c stepG_skip (fl2 hR hFR) hF
  u_c stepG_seq (fl2 hR hFR) hF
  u_reg (fl2 hR hFR) hF
  refine Goes.stop (fun w₁ h₁ => ?_)
  replace hF := fl2 hR hFR hF h₁
  clear h₁
  refine ⟨rfl, _, stepG_mark0 .disable (by simp) rfl rfl (by k_ne) rfl H.f_disable (x_disable_n L) (x_disable_b L) (x_disable_x L) (x_disable_f L), 40, ?_⟩
  walk_nrm
  u_c stepG_region_end (fl2 hR hFR) hF
  u_reg (fl2 hR hFR) hF
  u_defer (fl2 hR hFR) hF
  u_c stepG_region_end (fl2 hR hFR) hF
  u_c stepG_seq (fl2 hR hFR) hF
  u_reg (fl2 hR hFR) hF
  u_op (fl2 hR hFR) hF
  u_c stepG_region_end (fl2 hR hFR) hF
  u_c stepG_seq (fl2 hR hFR) hF
  u_c stepG_seq (fl2 hR hFR) hF
  u_reg (fl2 hR hFR) hF
  u_bub (fl2 hR hFR) hF
  u_c stepG_region_end (fl2 hR hFR) hF
  u_cnd false (fl2 hR hFR) hF
  u_c stepG_skip (fl2 hR hFR) hF
  u_c stepG_seq (fl2 hR hFR) hF
  u_reg (fl2 hR hFR) hF
  u_op (fl2 hR hFR) hF
  u_op (fl2 hR hFR) hF
  u_op (fl2 hR hFR) hF
  u_op (fl2 hR hFR) hF
  u_op (fl2 hR hFR) hF
  u_op (fl2 hR hFR) hF
  u_call H.f_uAdd (nm_uAdd L) uAddFn (fl2 hR hFR) hF
  u_c stepG_seq (fl2 hR hFR) hF
  u_reg (fl2 hR hFR) hF
  u_op (fl2 hR hFR) hF
  u_c stepG_region_end (fl2 hR hFR) hF
  u_c stepG_seq (fl2 hR hFR) hF
  u_reg (fl2 hR hFR) hF
  u_op (fl2 hR hFR) hF
  u_op (fl2 hR hFR) hF
  u_op (fl2 hR hFR) hF
  u_op (fl2 hR hFR) hF
  refine Goes.stop (fun w₂ h₂ => ?_)
  replace hF := fl2 hR hFR hF h₂
  clear h₂
  refine ⟨rfl, fun v hv hw => ?_⟩
  obtain ⟨V, hV⟩ : ∃ V : Int, V = (v : Int) + D := ⟨_, rfl⟩
  obtain ⟨S, hS⟩ : ∃ S : Int, S = V * KK := ⟨_, rfl⟩
  have eS : IntKind.u64.wrap ((v : Int) * KK + D % 18446744073709551616 * 4294967296 % 18446744073709551616) = S := by rw [IntKind.wrap_u64, hS, hV]; simp only [KK]; omega
  have z : ((v + d : Nat) : Int) * KK = S := by rw [hS, hV, ← hD]; simp
  rw [z]
  have a1 : S / 4294967296 = V := by rw [hS]; simp only [KK]; omega
  have b1 : bits .and .u64 S 2147483648 = 0 := by rw [hS, hV, ← hD]; have := st_flag (v + d) 0 (by omega) (by omega); simpa [KK] using this
  have b2 : bits .and .u64 S 2147483647 = 0 := by rw [hS, hV, ← hD]; have := st_waiters (v + d) 0 (by omega) (by omega); simpa [KK] using this
  have c1 : IntKind.i32.wrap V = V := by rw [IntKind.wrap_i32]; omega
  have hV1 : 0 < V := by omega
  have hV2 : V < 2147483648 := by omega
  have q3 : decide (V < 0) = false := decide_eq_false (by omega)
  have q4 : decide (0 < V) = true := decide_eq_true (by omega)
  have q5 : (V == 0) = false := by simp; omega
  have q6 : decide (V = 0) = false := decide_eq_false (by omega)
  refine ⟨_, (stepG_add_atomic rfl rfl (by k_ne) rfl H.f_addU64 (x_addU64_n L) (x_addU64_b L) (x_addU64_x L) .u64 (x_addU64_f L) rfl rfl hw.cellSt (hw.thaw 0)).trans (by rw [eS]; rfl), fun hv0 => ⟨200, ?_⟩, fun hv0 => ⟨200, ?_⟩⟩
  · have q1 : (V == D) = true := by simp; omega
    have q2 : decide (V = D) = true := decide_eq_true (by omega)
    replace hF : F (w₂.setCell (stA wg) (.int .u64 S)) ∧ WgLive L.tWg wg (w₂.setCell (stA wg) (.int .u64 S)) := ⟨hFs _ _ _ rfl ⟨_, _, hw.setSt _⟩ hF.1, ⟨_, _, hw.setSt _⟩⟩
    clear hw hS hV eS z
    walk_nrm
    u_op (fl2 hR hFR) hF
    u_c stepG_region_end (fl2 hR hFR) hF
    u_c stepG_ret' (fl2 hR hFR) hF
    u_leave1 H.f_uAdd (fl2 hR hFR) hF
    u_op (fl2 hR hFR) hF
    u_c stepG_region_end (fl2 hR hFR) hF
    u_c stepG_seq (fl2 hR hFR) hF
    u_c stepG_seq (fl2 hR hFR) hF
    u_reg (fl2 hR hFR) hF
    u_op (fl2 hR hFR) hF
    u_op (fl2 hR hFR) hF
    u_op (fl2 hR hFR) hF
    u_op (fl2 hR hFR) hF
    u_skip (fl2 hR hFR) hF
    u_skip (fl2 hR hFR) hF
    u_op (fl2 hR hFR) hF
    u_c stepG_region_end (fl2 hR hFR) hF
    u_cnd false (fl2 hR hFR) hF
    u_c stepG_skip (fl2 hR hFR) hF
    u_c stepG_seq (fl2 hR hFR) hF
    u_reg (fl2 hR hFR) hF
    u_op (fl2 hR hFR) hF
    u_op (fl2 hR hFR) hF
    u_op (fl2 hR hFR) hF
    u_op (fl2 hR hFR) hF
    u_c stepG_region_end (fl2 hR hFR) hF
    u_c stepG_seq (fl2 hR hFR) hF
    u_reg (fl2 hR hFR) hF
    u_op (fl2 hR hFR) hF
    u_op (fl2 hR hFR) hF
    u_op (fl2 hR hFR) hF
    u_op (fl2 hR hFR) hF
    u_c stepG_region_end (fl2 hR hFR) hF
    u_c stepG_seq (fl2 hR hFR) hF
    u_c stepG_seq (fl2 hR hFR) hF
    u_reg (fl2 hR hFR) hF
    u_op (fl2 hR hFR) hF
    u_op (fl2 hR hFR) hF
    u_op (fl2 hR hFR) hF
    u_op (fl2 hR hFR) hF
    u_op (fl2 hR hFR) hF
    u_op (fl2 hR hFR) hF
    u_op (fl2 hR hFR) hF
    u_op (fl2 hR hFR) hF
    u_op (fl2 hR hFR) hF
    u_op (fl2 hR hFR) hF
    u_c stepG_region_end (fl2 hR hFR) hF
    u_cnd true (fl2 hR hFR) hF
    u_reg (fl2 hR hFR) hF
    u_op (fl2 hR hFR) hF
    u_op (fl2 hR hFR) hF
    u_op (fl2 hR hFR) hF
    u_conv H.underlying_tPU32 H.room_tU32 (live1 hF.2).choose_spec (fl2 hR hFR) hF
    refine Goes.stop (fun w₄ h₁ => ?_)
    replace hF := fl2 hR hFR hF h₁
    clear h₁
    refine ⟨rfl, _, stepG_markAt .read (by simp) rfl rfl (by k_ne) rfl H.f_raceRead (x_raceRead_n L) (x_raceRead_b L) (x_raceRead_x L) (x_raceRead_f L) (ad := ⟨wg, 1, none⟩) (by simp [Act.eval]), 200, ?_⟩
    walk_nrm
    u_c stepG_region_end (fl2 hR hFR) hF
    u_c stepG_seq (fl2 hR hFR) hF
    u_c stepG_seq (fl2 hR hFR) hF
    u_reg (fl2 hR hFR) hF
    u_op (fl2 hR hFR) hF
    u_op (fl2 hR hFR) hF
    u_c stepG_region_end (fl2 hR hFR) hF
    u_cnd false (fl2 hR hFR) hF
    u_c stepG_skip (fl2 hR hFR) hF
    u_c stepG_seq (fl2 hR hFR) hF
    u_c stepG_seq (fl2 hR hFR) hF
    u_reg (fl2 hR hFR) hF
    u_op (fl2 hR hFR) hF
    u_op (fl2 hR hFR) hF
    u_op (fl2 hR hFR) hF
    u_skip (fl2 hR hFR) hF
    u_skip (fl2 hR hFR) hF
    u_op (fl2 hR hFR) hF
    u_op (fl2 hR hFR) hF
    u_skip (fl2 hR hFR) hF
    u_skip (fl2 hR hFR) hF
    u_skip (fl2 hR hFR) hF
    u_skip (fl2 hR hFR) hF
    u_op (fl2 hR hFR) hF
    u_c stepG_region_end (fl2 hR hFR) hF
    u_cnd false (fl2 hR hFR) hF
    u_c stepG_skip (fl2 hR hFR) hF
    u_c stepG_seq (fl2 hR hFR) hF
    u_c stepG_seq (fl2 hR hFR) hF
    u_reg (fl2 hR hFR) hF
    u_op (fl2 hR hFR) hF
    u_op (fl2 hR hFR) hF
    u_op (fl2 hR hFR) hF
    u_skip (fl2 hR hFR) hF
    u_skip (fl2 hR hFR) hF
    u_op (fl2 hR hFR) hF
    u_c stepG_region_end (fl2 hR hFR) hF
    u_cnd true (fl2 hR hFR) hF
    u_c stepG_ret' (fl2 hR hFR) hF
    refine Goes.stop (fun w₃ h₃ => ?_)
    replace hF := fl2 hR hFR hF h₃
    clear h₃
    refine ⟨rfl, _, stepG_unwind_entry (v := .tuple #[]) (evs := #[mk .enable]) rfl H.f_enable (x_enable_n L) (x_enable_b L) (x_enable_x L) (x_enable_f L) (by simp [Extern.Race.none_]) (by simp [mk]) (by simp [mk]), mT + 1, ?_⟩
    u_leave0 H.f_add (fl2 hR hFR) hF
    exact hT _ hF.1 hF.2
  · have q1 : (V == D) = false := by simp; omega
    have q2 : decide (V = D) = false := decide_eq_false (by omega)
    replace hF : F (w₂.setCell (stA wg) (.int .u64 S)) ∧ WgLive L.tWg wg (w₂.setCell (stA wg) (.int .u64 S)) := ⟨hFs _ _ _ rfl ⟨_, _, hw.setSt _⟩ hF.1, ⟨_, _, hw.setSt _⟩⟩
    clear hw hS hV eS z
    walk_nrm
    u_op (fl2 hR hFR) hF
    u_c stepG_region_end (fl2 hR hFR) hF
    u_c stepG_ret' (fl2 hR hFR) hF
    u_leave1 H.f_uAdd (fl2 hR hFR) hF
    u_op (fl2 hR hFR) hF
    u_c stepG_region_end (fl2 hR hFR) hF
    u_c stepG_seq (fl2 hR hFR) hF
    u_c stepG_seq (fl2 hR hFR) hF
    u_reg (fl2 hR hFR) hF
    u_op (fl2 hR hFR) hF
    u_op (fl2 hR hFR) hF
    u_op (fl2 hR hFR) hF
    u_op (fl2 hR hFR) hF
    u_skip (fl2 hR hFR) hF
    u_skip (fl2 hR hFR) hF
    u_op (fl2 hR hFR) hF
    u_c stepG_region_end (fl2 hR hFR) hF
    u_cnd false (fl2 hR hFR) hF
    u_c stepG_skip (fl2 hR hFR) hF
    u_c stepG_seq (fl2 hR hFR) hF
    u_reg (fl2 hR hFR) hF
    u_op (fl2 hR hFR) hF
    u_op (fl2 hR hFR) hF
    u_op (fl2 hR hFR) hF
    u_op (fl2 hR hFR) hF
    u_c stepG_region_end (fl2 hR hFR) hF
    u_c stepG_seq (fl2 hR hFR) hF
    u_reg (fl2 hR hFR) hF
    u_op (fl2 hR hFR) hF
    u_op (fl2 hR hFR) hF
    u_op (fl2 hR hFR) hF
    u_op (fl2 hR hFR) hF
    u_c stepG_region_end (fl2 hR hFR) hF
    u_c stepG_seq (fl2 hR hFR) hF
    u_c stepG_seq (fl2 hR hFR) hF
    u_reg (fl2 hR hFR) hF
    u_op (fl2 hR hFR) hF
    u_op (fl2 hR hFR) hF
    u_op (fl2 hR hFR) hF
    u_op (fl2 hR hFR) hF
    u_op (fl2 hR hFR) hF
    u_op (fl2 hR hFR) hF
    u_op (fl2 hR hFR) hF
    u_op (fl2 hR hFR) hF
    u_op (fl2 hR hFR) hF
    u_op (fl2 hR hFR) hF
    u_c stepG_region_end (fl2 hR hFR) hF
    u_cnd false (fl2 hR hFR) hF
    u_c stepG_skip (fl2 hR hFR) hF
    u_c stepG_seq (fl2 hR hFR) hF
    u_c stepG_seq (fl2 hR hFR) hF
    u_reg (fl2 hR hFR) hF
    u_op (fl2 hR hFR) hF
    u_op (fl2 hR hFR) hF
    u_c stepG_region_end (fl2 hR hFR) hF
    u_cnd false (fl2 hR hFR) hF
    u_c stepG_skip (fl2 hR hFR) hF
    u_c stepG_seq (fl2 hR hFR) hF
    u_c stepG_seq (fl2 hR hFR) hF
    u_reg (fl2 hR hFR) hF
    u_op (fl2 hR hFR) hF
    u_op (fl2 hR hFR) hF
    u_op (fl2 hR hFR) hF
    u_skip (fl2 hR hFR) hF
    u_skip (fl2 hR hFR) hF
    u_op (fl2 hR hFR) hF
    u_op (fl2 hR hFR) hF
    u_skip (fl2 hR hFR) hF
    u_skip (fl2 hR hFR) hF
    u_skip (fl2 hR hFR) hF
    u_skip (fl2 hR hFR) hF
    u_op (fl2 hR hFR) hF
    u_c stepG_region_end (fl2 hR hFR) hF
    u_cnd false (fl2 hR hFR) hF
    u_c stepG_skip (fl2 hR hFR) hF
    u_c stepG_seq (fl2 hR hFR) hF
    u_c stepG_seq (fl2 hR hFR) hF
    u_reg (fl2 hR hFR) hF
    u_op (fl2 hR hFR) hF
    u_op (fl2 hR hFR) hF
    u_op (fl2 hR hFR) hF
    u_skip (fl2 hR hFR) hF
    u_skip (fl2 hR hFR) hF
    u_op (fl2 hR hFR) hF
    u_c stepG_region_end (fl2 hR hFR) hF
    u_cnd true (fl2 hR hFR) hF
    u_c stepG_ret' (fl2 hR hFR) hF
    refine Goes.stop (fun w₃ h₃ => ?_)
    replace hF := fl2 hR hFR hF h₃
    clear h₃
    refine ⟨rfl, _, stepG_unwind_entry (v := .tuple #[]) (evs := #[mk .enable]) rfl H.f_enable (x_enable_n L) (x_enable_b L) (x_enable_x L) (x_enable_f L) (by simp [Extern.Race.none_]) (by simp [mk]) (by simp [mk]), mT + 1, ?_⟩
    u_leave0 H.f_add (fl2 hR hFR) hF
    exact hT _ hF.1 hF.2
end Go.Proofs.Ytmkjoojoaldljaa.Net
namespace Go.Proofs.Ytmkjoojoaldljaa.Net
open Go.Conc Go.RowKit Go.Conc.Lib Go.ConcR.Gen
open Go.ConcN (WgLive st_flag st_waiters)
open Go.ConcR (KK wgBlock WgAt stA smA rd wr mk DC0)
variable {L : WgLink} {P : Program} {R : World → World → Prop} {wg : Nat} {F : World → Prop}
noncomputable def waitLoop (L : WgLink) : Code := match (waitFn L).body.getD .skip with | .seq _ (.block _ (.loop c)) => c | _ => .skip
def AnchW (L : WgLink) (F : World → Prop) (wg : Nat) (c : Frame) (cs : List Frame) (g : Goroutine) (w : World) : Prop :=
  ∃ T : Array Value, g = G ((base L.wait).at ⟨T, []⟩ [.code (waitLoop L), .inLoop (waitLoop L), .inBlock 0]) (c :: cs) ∧ T.size = 84 ∧ T[0]? = some (.pointer (some ⟨wg, 0, none⟩)) ∧ F w ∧ WgLive L.tWg wg w
section
variable {main : Bool} {Next : Goroutine → World → Prop} {b₀ : Frame} {a₀ : Act} {ops₀ : Array Oper} {i₀ : Nat} {rest₀ : List Nat} {k₀ : List Item} {cs : List Frame} {mT : Nat}
set_option maxRecDepth 100000 in
set_option maxHeartbeats 8000000 in
theorem net_waitRound (H : WgLib P L)
    (hR : ∀ w w', R w w' → WgLive L.tWg wg w → WgLive L.tWg wg w') (hFR : ∀ w w', R w w' → F w → F w') (hFs : ∀ w a u, a.block = wg → WgLive L.tWg wg (w.setCell a u) → F w → F (w.setCell a u))
    (hT : ∀ w, F w → WgLive L.tWg wg w → Goes P main R DC0 Next mT (G (b₀.at (a₀.put ((ops₀[i₀]?).bind (·.dst)) (.tuple #[])) (.inRegion ops₀ rest₀ :: k₀)) cs) w)
    (g : Goroutine) (w : World) (h : AnchW L F wg (b₀.at a₀ (.inRegion ops₀ (i₀ :: rest₀) :: k₀)) cs g w) :
    Goes P main R DC0 (AtW1 P L.tWg main R wg (AnchW L F wg (b₀.at a₀ (.inRegion ops₀ (i₀ :: rest₀) :: k₀)) cs) Next) 30 g w := by
  lib_facts
  obtain ⟨T, rfl, hT84, t0, hF⟩ := h
  obtain ⟨v0, v1, v2, v3, v4, v5, v6, v7, v8, v9, v10, v11, v12, v13, v14, v15, v16, v17, v18, v19, v20, v21, v22, v23, v24, v25, v26, v27, v28, v29, v30, v31, v32, v33, v34, v35, v36, v37, v38, v39, v40, v41, v42, v43, v44, v45, v46, v47, v48, v49, v50, v51, v52, v53, v54, v55, v56, v57, v58, v59, v60, v61, v62, v63, v64, v65, v66, v67, v68, v69, v70, v71, v72, v73, v74, v75, v76, v77, v78, v79, v80, v81, v82, v83, rfl⟩ := array84 T hT84
  simp only [List.getElem?_toArray, List.getElem?_cons_zero, Option.some.injEq] at t0
  subst t0
  simp only [waitLoop, waitFn, Option.getD_some]
  u_c stepG_block (fl2 hR hFR) hF
  u_c stepG_seq (fl2 hR hFR) hF
  u_reg (fl2 hR hFR) hF
  u_op (fl2 hR hFR) hF
  u_op (fl2 hR hFR) hF
  u_op (fl2 hR hFR) hF
  u_call H.f_uLoad (nm_uLoad L) uLoadFn (fl2 hR hFR) hF
  u_c stepG_seq (fl2 hR hFR) hF
  u_reg (fl2 hR hFR) hF
  u_op (fl2 hR hFR) hF
  u_c stepG_region_end (fl2 hR hFR) hF
  u_c stepG_seq (fl2 hR hFR) hF
  u_reg (fl2 hR hFR) hF
  u_op (fl2 hR hFR) hF
  u_op (fl2 hR hFR) hF
  u_op (fl2 hR hFR) hF
  refine Goes.stop (fun w₁ h₁ => ?_)
  replace hF := fl2 hR hFR hF h₁
  clear h₁
  refine ⟨rfl, fun v hv hw => ?_⟩
  rcases Nat.eq_zero_or_pos v with rfl | hvp
  ·
    replace hw : WgAt L.tWg wg w₁ 0 0 := by simpa using hw
    refine ⟨_, stepG_load_atomic (v := 0) rfl rfl (by k_ne) rfl H.f_loadU64 (x_loadU64_n L) (x_loadU64_b L) (x_loadU64_x L) .u64 (x_loadU64_f L) rfl hw.cellSt, fun _ => ⟨50, ?_⟩, fun h => absurd rfl h⟩
    clear hw
    walk_nrm
    u_op (fl2 hR hFR) hF
    u_c stepG_region_end (fl2 hR hFR) hF
    u_c stepG_ret' (fl2 hR hFR) hF
    u_leave1 H.f_uLoad (fl2 hR hFR) hF
    u_op (fl2 hR hFR) hF
    u_c stepG_region_end (fl2 hR hFR) hF
    u_c stepG_seq (fl2 hR hFR) hF
    u_reg (fl2 hR hFR) hF
    u_op (fl2 hR hFR) hF
    u_op (fl2 hR hFR) hF
    u_op (fl2 hR hFR) hF
    u_op (fl2 hR hFR) hF
    u_c stepG_region_end (fl2 hR hFR) hF
    u_c stepG_seq (fl2 hR hFR) hF
    u_reg (fl2 hR hFR) hF
    u_op (fl2 hR hFR) hF
    u_op (fl2 hR hFR) hF
    u_op (fl2 hR hFR) hF
    u_op (fl2 hR hFR) hF
    u_c stepG_region_end (fl2 hR hFR) hF
    u_c stepG_seq (fl2 hR hFR) hF
    u_c stepG_seq (fl2 hR hFR) hF
    u_reg (fl2 hR hFR) hF
    u_op (fl2 hR hFR) hF
    u_op (fl2 hR hFR) hF
    u_c stepG_region_end (fl2 hR hFR) hF
    u_cond true (fl2 hR hFR) hF
    u_c stepG_seq (fl2 hR hFR) hF
    u_cond true (fl2 hR hFR) hF
    u_c stepG_seq (fl2 hR hFR) hF
    u_reg (fl2 hR hFR) hF
    refine Goes.stop (fun w₅ h₅ => ?_)
    replace hF := fl2 hR hFR hF h₅
    clear h₅
    refine ⟨rfl, _, stepG_mark0 .enable (by simp) rfl rfl (by k_ne) rfl H.f_enable (x_enable_n L) (x_enable_b L) (x_enable_x L) (x_enable_f L), 12, ?_⟩
    walk_nrm
    u_c stepG_region_end (fl2 hR hFR) hF
    u_reg (fl2 hR hFR) hF
    u_op (fl2 hR hFR) hF
    u_conv H.underlying_tWgP H.room_tWg (live0 hF.2).choose_spec (fl2 hR hFR) hF
    refine Goes.stop (fun w₆ h₆ => ?_)
    replace hF := fl2 hR hFR hF h₆
    clear h₆
    refine ⟨rfl, _, stepG_markAt .acquire (by simp) rfl rfl (by k_ne) rfl H.f_acquire (x_acquire_n L) (x_acquire_b L) (x_acquire_x L) (x_acquire_f L) (by simp [Act.eval, stA]), ⟨mT + 20, ?_⟩⟩
    walk_nrm
    u_c stepG_region_end (fl2 hR hFR) hF
    u_c stepG_seq (fl2 hR hFR) hF
    u_c stepG_seq (fl2 hR hFR) hF
    u_reg (fl2 hR hFR) hF
    u_op (fl2 hR hFR) hF
    u_op (fl2 hR hFR) hF
    u_op (fl2 hR hFR) hF
    u_op (fl2 hR hFR) hF
    u_op (fl2 hR hFR) hF
    u_op (fl2 hR hFR) hF
    u_op (fl2 hR hFR) hF
    u_op (fl2 hR hFR) hF
    u_skip (fl2 hR hFR) hF
    u_skip (fl2 hR hFR) hF
    u_op (fl2 hR hFR) hF
    u_c stepG_region_end (fl2 hR hFR) hF
    u_cond false (fl2 hR hFR) hF
    u_c stepG_skip (fl2 hR hFR) hF
    u_c stepG_ret' (fl2 hR hFR) hF
    u_leave0 H.f_wait (fl2 hR hFR) hF
    exact hT _ hF.1 hF.2
  ·
    obtain ⟨S, hS⟩ : ∃ S : Int, (v : Int) * KK = S := ⟨_, rfl⟩
    have a1 : S / 4294967296 = (v : Int) := by rw [← hS]; simp only [KK]; omega
    have b1 : bits .and .u64 S 2147483648 = 0 := by rw [← hS]; have := st_flag v 0 (by omega) (by omega); simpa [KK] using this
    have b2 : bits .and .u64 S 2147483647 = 0 := by rw [← hS]; have := st_waiters v 0 (by omega) (by omega); simpa [KK] using this
    have c1 : IntKind.i32.wrap (v : Int) = (v : Int) := by rw [IntKind.wrap_i32]; omega
    have w1 : IntKind.u64.wrap (S + 1) = S + 1 := by rw [IntKind.wrap_u64, ← hS]; simp only [KK]; omega
    have q3 : decide ((v : Int) < 0) = false := decide_eq_false (by omega)
    have q4 : decide (0 < (v : Int)) = true := decide_eq_true (by omega)
    have q5 : ((v : Int) == 0) = false := by simp; omega
    have q6 : decide ((v : Int) = 0) = false := decide_eq_false (by omega)
    rw [hS] at hw
    refine ⟨_, stepG_load_atomic (v := S) rfl rfl (by k_ne) rfl H.f_loadU64 (x_loadU64_n L) (x_loadU64_b L) (x_loadU64_x L) .u64 (x_loadU64_f L) rfl hw.cellSt, fun h0 => absurd h0 (by omega), fun _ => ⟨60, ?_⟩⟩
    clear hw
    walk_nrm
    u_op (fl2 hR hFR) hF
    u_c stepG_region_end (fl2 hR hFR) hF
    u_c stepG_ret' (fl2 hR hFR) hF
    u_leave1 H.f_uLoad (fl2 hR hFR) hF
    u_op (fl2 hR hFR) hF
    u_c stepG_region_end (fl2 hR hFR) hF
    u_c stepG_seq (fl2 hR hFR) hF
    u_reg (fl2 hR hFR) hF
    u_op (fl2 hR hFR) hF
    u_op (fl2 hR hFR) hF
    u_op (fl2 hR hFR) hF
    u_op (fl2 hR hFR) hF
    u_c stepG_region_end (fl2 hR hFR) hF
    u_c stepG_seq (fl2 hR hFR) hF
    u_reg (fl2 hR hFR) hF
    u_op (fl2 hR hFR) hF
    u_op (fl2 hR hFR) hF
    u_op (fl2 hR hFR) hF
    u_op (fl2 hR hFR) hF
    u_c stepG_region_end (fl2 hR hFR) hF
    u_c stepG_seq (fl2 hR hFR) hF
    u_c stepG_seq (fl2 hR hFR) hF
    u_reg (fl2 hR hFR) hF
    u_op (fl2 hR hFR) hF
    u_op (fl2 hR hFR) hF
    u_c stepG_region_end (fl2 hR hFR) hF
    u_cnd false (fl2 hR hFR) hF
    u_c stepG_skip (fl2 hR hFR) hF
    u_c stepG_seq (fl2 hR hFR) hF
    u_reg (fl2 hR hFR) hF
    u_op (fl2 hR hFR) hF
    u_op (fl2 hR hFR) hF
    u_op (fl2 hR hFR) hF
    u_op (fl2 hR hFR) hF
    u_op (fl2 hR hFR) hF
    u_op (fl2 hR hFR) hF
    u_call H.f_uCas (nm_uCas L) uCasFn (fl2 hR hFR) hF
    u_c stepG_seq (fl2 hR hFR) hF
    u_reg (fl2 hR hFR) hF
    u_op (fl2 hR hFR) hF
    u_c stepG_region_end (fl2 hR hFR) hF
    u_c stepG_seq (fl2 hR hFR) hF
    u_reg (fl2 hR hFR) hF
    u_op (fl2 hR hFR) hF
    u_op (fl2 hR hFR) hF
    u_op (fl2 hR hFR) hF
    u_op (fl2 hR hFR) hF
    u_op (fl2 hR hFR) hF
    refine Goes.stop (fun w₂ h₂ => ?_)
    replace hF := fl2 hR hFR hF h₂
    clear h₂
    refine ⟨rfl, fun v' hv' hw => ⟨fun e => ?_, fun e => ?_⟩⟩
    ·
      subst e
      rw [hS] at hw ⊢
      refine ⟨_, (stepG_cas_hit (v := S) (n := S + 1) rfl rfl (by k_ne) rfl H.f_casU64 (x_casU64_n L) (x_casU64_b L) (x_casU64_x L) .u64 (x_casU64_f L) rfl rfl rfl hw.cellSt (hw.thaw 0)).trans (by rfl), 70, ?_⟩
      replace hF : F (w₂.setCell (stA wg) (.int .u64 (S + 1))) ∧ WgLive L.tWg wg (w₂.setCell (stA wg) (.int .u64 (S + 1))) := ⟨hFs _ _ _ rfl ⟨_, _, hw.setSt _⟩ hF.1, ⟨_, _, hw.setSt _⟩⟩
      clear hw
      walk_nrm
      u_op (fl2 hR hFR) hF
      u_c stepG_region_end (fl2 hR hFR) hF
      u_c stepG_ret' (fl2 hR hFR) hF
      u_leave1 H.f_uCas (fl2 hR hFR) hF
      u_c stepG_region_end (fl2 hR hFR) hF
      u_cond true (fl2 hR hFR) hF
      u_c stepG_seq (fl2 hR hFR) hF
      u_c stepG_seq (fl2 hR hFR) hF
      u_reg (fl2 hR hFR) hF
      u_op (fl2 hR hFR) hF
      u_op (fl2 hR hFR) hF
      u_op (fl2 hR hFR) hF
      u_op (fl2 hR hFR) hF
      u_c stepG_region_end (fl2 hR hFR) hF
      u_cond true (fl2 hR hFR) hF
      u_reg (fl2 hR hFR) hF
      u_op (fl2 hR hFR) hF
      u_op (fl2 hR hFR) hF
      u_op (fl2 hR hFR) hF
      u_conv H.underlying_tPU32 H.room_tU32 (live1 hF.2).choose_spec (fl2 hR hFR) hF
      refine Goes.stop (fun w₇ h₁ => ?_)
      replace hF := fl2 hR hFR hF h₁
      clear h₁
      refine ⟨rfl, _, stepG_markAt .write (by simp) rfl rfl (by k_ne) rfl H.f_raceWrite (x_raceWrite_n L) (x_raceWrite_b L) (x_raceWrite_x L) (x_raceWrite_f L) (ad := ⟨wg, 1, none⟩) (by simp [Act.eval]), 70, ?_⟩
      try walk_nrm
      u_c stepG_region_end (fl2 hR hFR) hF
      u_c stepG_seq (fl2 hR hFR) hF
      u_reg (fl2 hR hFR) hF
      u_op (fl2 hR hFR) hF
      u_c stepG_region_end (fl2 hR hFR) hF
      u_c stepG_seq (fl2 hR hFR) hF
      u_c stepG_seq (fl2 hR hFR) hF
      u_reg (fl2 hR hFR) hF
      u_op (fl2 hR hFR) hF
      u_op (fl2 hR hFR) hF
      u_op (fl2 hR hFR) hF
      u_op (fl2 hR hFR) hF
      u_skip (fl2 hR hFR) hF
      u_op (fl2 hR hFR) hF
      u_c stepG_region_end (fl2 hR hFR) hF
      u_cond false (fl2 hR hFR) hF
      u_c stepG_skip (fl2 hR hFR) hF
      u_c stepG_seq (fl2 hR hFR) hF
      u_reg (fl2 hR hFR) hF
      u_op (fl2 hR hFR) hF
      u_op (fl2 hR hFR) hF
      u_op (fl2 hR hFR) hF
      u_op (fl2 hR hFR) hF
      refine Goes.stop (fun w₃ h₃ => ?_)
      replace hF := fl2 hR hFR hF h₃
      clear h₃
      refine ⟨rfl, rfl, fun ⟨st, hw⟩ => stepG_semacquire_wait rfl rfl rfl H.f_semacquire (x_semacquire_n L) (x_semacquire_b L) (x_semacquire_x L) (x_semacquire_f L) (by simp [Act.eval, smA]) hw.cellSm, fun hf => ?_⟩
      refine ⟨_, (stepG_semacquire (n := 1) rfl rfl (by k_ne) rfl H.f_semacquire (x_semacquire_n L) (x_semacquire_b L) (x_semacquire_x L) (x_semacquire_f L) (by simp [Act.eval, smA]) hf.cellSm (by k_ne) (hf.thaw 1)).trans (by rfl), 30, ?_⟩
      replace hF : F (w₃.setCell (smA wg) (.int .u32 0)) ∧ WgLive L.tWg wg (w₃.setCell (smA wg) (.int .u32 0)) := ⟨hFs _ _ _ rfl ⟨_, _, hf.setSm 0⟩ hF.1, ⟨_, _, hf.setSm 0⟩⟩
      clear hf
      walk_nrm
      u_c stepG_region_end (fl2 hR hFR) hF
      u_c stepG_seq (fl2 hR hFR) hF
      u_reg (fl2 hR hFR) hF
      u_op (fl2 hR hFR) hF
      u_op (fl2 hR hFR) hF
      u_op (fl2 hR hFR) hF
      u_call H.f_uLoad (nm_uLoad L) uLoadFn (fl2 hR hFR) hF
      u_c stepG_seq (fl2 hR hFR) hF
      u_reg (fl2 hR hFR) hF
      u_op (fl2 hR hFR) hF
      u_c stepG_region_end (fl2 hR hFR) hF
      u_c stepG_seq (fl2 hR hFR) hF
      u_reg (fl2 hR hFR) hF
      u_op (fl2 hR hFR) hF
      u_op (fl2 hR hFR) hF
      u_op (fl2 hR hFR) hF
      refine Goes.stop (fun w₄ h₄ => ?_)
      replace hF := fl2 hR hFR hF h₄
      clear h₄
      refine ⟨rfl, fun hw => ⟨_, stepG_load_atomic (v := 0) rfl rfl (by k_ne) rfl H.f_loadU64 (x_loadU64_n L) (x_loadU64_b L) (x_loadU64_x L) .u64 (x_loadU64_f L) rfl hw.cellSt, 30, ?_⟩⟩
      clear hw
      walk_nrm
      u_op (fl2 hR hFR) hF
      u_c stepG_region_end (fl2 hR hFR) hF
      u_c stepG_ret' (fl2 hR hFR) hF
      u_leave1 H.f_uLoad (fl2 hR hFR) hF
      u_op (fl2 hR hFR) hF
      u_op (fl2 hR hFR) hF
      u_c stepG_region_end (fl2 hR hFR) hF
      u_c stepG_seq (fl2 hR hFR) hF
      u_cond true (fl2 hR hFR) hF
      u_c stepG_seq (fl2 hR hFR) hF
      u_reg (fl2 hR hFR) hF
      refine Goes.stop (fun w₅ h₅ => ?_)
      replace hF := fl2 hR hFR hF h₅
      clear h₅
      refine ⟨rfl, _, stepG_mark0 .enable (by simp) rfl rfl (by k_ne) rfl H.f_enable (x_enable_n L) (x_enable_b L) (x_enable_x L) (x_enable_f L), 12, ?_⟩
      walk_nrm
      u_c stepG_region_end (fl2 hR hFR) hF
      u_reg (fl2 hR hFR) hF
      u_op (fl2 hR hFR) hF
      u_conv H.underlying_tWgP H.room_tWg (live0 hF.2).choose_spec (fl2 hR hFR) hF
      refine Goes.stop (fun w₆ h₆ => ?_)
      replace hF := fl2 hR hFR hF h₆
      clear h₆
      refine ⟨rfl, _, stepG_markAt .acquire (by simp) rfl rfl (by k_ne) rfl H.f_acquire (x_acquire_n L) (x_acquire_b L) (x_acquire_x L) (x_acquire_f L) (by simp [Act.eval, stA]), ⟨mT + 10, ?_⟩⟩
      walk_nrm
      u_c stepG_region_end (fl2 hR hFR) hF
      u_c stepG_seq (fl2 hR hFR) hF
      u_c stepG_seq (fl2 hR hFR) hF
      u_reg (fl2 hR hFR) hF
      u_op (fl2 hR hFR) hF
      u_c stepG_region_end (fl2 hR hFR) hF
      u_cond false (fl2 hR hFR) hF
      u_c stepG_skip (fl2 hR hFR) hF
      u_c stepG_ret' (fl2 hR hFR) hF
      u_leave0 H.f_wait (fl2 hR hFR) hF
      exact hT _ hF.1 hF.2
    ·
      refine ⟨_, stepG_cas_miss (v := (v' : Int) * KK) (old := S) (n := S + 1) rfl rfl (by k_ne) rfl H.f_casU64 (x_casU64_n L) (x_casU64_b L) (x_casU64_x L) .u64 (x_casU64_f L) rfl rfl rfl hw.cellSt (hw.thaw 0) (by rw [← hS]; simp only [KK]; omega), 20, ?_⟩
      clear hw
      walk_nrm
      u_op (fl2 hR hFR) hF
      u_c stepG_region_end (fl2 hR hFR) hF
      u_c stepG_ret' (fl2 hR hFR) hF
      u_leave1 H.f_uCas (fl2 hR hFR) hF
      u_c stepG_region_end (fl2 hR hFR) hF
      u_cond false (fl2 hR hFR) hF
      u_c stepG_skip (fl2 hR hFR) hF
      u_c stepG_inBlock (fl2 hR hFR) hF
      u_c stepG_inLoop (fl2 hR hFR) hF
      refine Goes.stop (fun w₃ h₃ => ?_)
      replace hF := fl2 hR hFR hF h₃
      exact ⟨_, rfl, by simp, by simp, hF⟩
set_option maxRecDepth 100000 in
set_option maxHeartbeats 8000000 in
theorem net_wait (H : WgLib P L)
    (hR : ∀ w w', R w w' → WgLive L.tWg wg w → WgLive L.tWg wg w') (hFR : ∀ w w', R w w' → F w → F w') (hFs : ∀ w a u, a.block = wg → WgLive L.tWg wg (w.setCell a u) → F w → F (w.setCell a u))
    (hT : ∀ w, F w → WgLive L.tWg wg w → Goes P main R DC0 Next mT (G (b₀.at (a₀.put ((ops₀[i₀]?).bind (·.dst)) (.tuple #[])) (.inRegion ops₀ rest₀ :: k₀)) cs) w)
    (w : World) (hF : F w ∧ WgLive L.tWg wg w) :
    Goes P main R DC0 (AtKd P L.tWg main R wg Next) 3 (G ((base L.wait).at ⟨#[.pointer (some ⟨wg, 0, none⟩), undef, undef, undef, undef, undef, undef, undef, undef, undef, undef, undef, undef, undef, undef, undef, undef, undef, undef, undef, undef, undef, undef, undef, undef, undef, undef, undef, undef, undef, undef, undef, undef, undef, undef, undef, undef, undef, undef, undef, undef, undef, undef, undef, undef, undef, undef, undef, undef, undef, undef, undef, undef, undef, undef, undef, undef, undef, undef, undef, undef, undef, undef, undef, undef, undef, undef, undef, undef, undef, undef, undef, undef, undef, undef, undef, undef, undef, undef, undef, undef, undef, undef, undef], []⟩ [.code ((waitFn L).body.getD .skip)]) (b₀.at a₀ (.inRegion ops₀ (i₀ :: rest₀) :: k₀) :: cs)) w := by
  lib_facts
  simp only [waitFn, Option.getD_some]
  u_c stepG_seq (fl2 hR hFR) hF
  u_cond true (fl2 hR hFR) hF
  u_reg (fl2 hR hFR) hF
  refine Goes.stop (fun w₁ h₁ => ?_)
  replace hF := fl2 hR hFR hF h₁
  clear h₁
  refine ⟨AnchW L F wg (b₀.at a₀ (.inRegion ops₀ (i₀ :: rest₀) :: k₀)) cs, ⟨30, fun g w h => net_waitRound H hR hFR hFs hT g w h⟩, rfl, _, stepG_mark0 .disable (by simp) rfl rfl (by k_ne) rfl H.f_disable (x_disable_n L) (x_disable_b L) (x_disable_x L) (x_disable_f L), 3, ?_⟩
  walk_nrm
  u_c stepG_region_end (fl2 hR hFR) hF
  u_c stepG_block (fl2 hR hFR) hF
  u_c stepG_loop (fl2 hR hFR) hF
  exact Goes.stop (fun w₂ h₂ => ⟨_, rfl, by simp, by simp, fl2 hR hFR hF h₂⟩)
end
end Go.Proofs.Ytmkjoojoaldljaa.Net
namespace Go.Proofs
abbrev Try.link : Go.Conc.Lib.WgLink := { add := 34, done := 36, wait := 40, relMerge := 52, disable := 53, enable := 54, inBubble := 55, associate := 56, fatal := 57, uOr := 58, uAdd := 59, raceRead := 60, uLoad := 61, uStore := 62, disassociate := 63, semrelease := 64, acquire := 65, isAssociated := 66, uCas := 67, raceWrite := 68, semacquire := 69, orU64 := 70, addU64 := 71, loadU64 := 72, storeU64 := 73, casU64 := 74, tWgP := 93, tUP := 95, tAssoc := 96, tWg := 69, tAU := 66, tU64 := 64, tUint := 100, tU32 := 67, tPU32 := 101, tPAU := 112, tPU64 := 114, tNoCopy := 61, tANoCopy := 62, tAlign64 := 63 }
theorem Try.wgLib : Go.Conc.Lib.WgLib Try.prog Try.link :=
  ⟨Try.func34, Try.func36, Try.func40, Try.func52, Try.func53, Try.func54, Try.func55, Try.func56, Try.func57, Try.func58, Try.func59, Try.func60, Try.func61, Try.func62, Try.func63, Try.func64, Try.func65, Try.func66, Try.func67, Try.func68, Try.func69, Try.func70, Try.func71, Try.func72, Try.func73, Try.func74, Try.underlying93, Try.runUnderlying93, Try.sizeOf93, Try.isAgg93, Try.zeroValue93, Try.underlying95, Try.runUnderlying95, Try.sizeOf95, Try.isAgg95, Try.zeroValue95, Try.underlying96, Try.runUnderlying96, Try.sizeOf96, Try.isAgg96, Try.zeroValue96, Try.underlying69, Try.runUnderlying69, Try.sizeOf69, Try.isAgg69, Try.zeroValue69, Try.underlying66, Try.runUnderlying66, Try.sizeOf66, Try.isAgg66, Try.zeroValue66, Try.underlying64, Try.runUnderlying64, Try.sizeOf64, Try.isAgg64, Try.zeroValue64, Try.underlying100, Try.runUnderlying100, Try.sizeOf100, Try.isAgg100, Try.zeroValue100, Try.underlying67, Try.runUnderlying67, Try.sizeOf67, Try.isAgg67, Try.zeroValue67, Try.underlying101, Try.runUnderlying101, Try.sizeOf101, Try.isAgg101, Try.zeroValue101, Try.underlying112, Try.runUnderlying112, Try.sizeOf112, Try.isAgg112, Try.zeroValue112, Try.underlying114, Try.runUnderlying114, Try.sizeOf114, Try.isAgg114, Try.zeroValue114, Try.underlying0, Try.runUnderlying0, Try.sizeOf0, Try.isAgg0, Try.zeroValue0, Try.underlying3, Try.runUnderlying3, Try.sizeOf3, Try.isAgg3, Try.zeroValue3, Try.underlying4, Try.runUnderlying4, Try.sizeOf4, Try.isAgg4, Try.zeroValue4, Try.underlying9, Try.runUnderlying9, Try.sizeOf9, Try.isAgg9, Try.zeroValue9, Try.underlying20, Try.runUnderlying20, Try.sizeOf20, Try.isAgg20, Try.zeroValue20, Try.underlying21, Try.runUnderlying21, Try.sizeOf21, Try.isAgg21, Try.zeroValue21, (by kernel_rfl), (by kernel_rfl)⟩
end Go.Proofs
