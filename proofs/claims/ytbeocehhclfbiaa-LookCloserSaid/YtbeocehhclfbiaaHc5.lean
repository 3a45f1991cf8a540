/- A part of the proof of: LookCloser: whatever the views, the place, and whose look it is: the law is true, and its arguments stay as they were. No condition but those of the row itself. -/
import Derived.Test.YtbeocehhclfbiaaHc4
set_option linter.unusedSimpArgs false
set_option linter.unusedVariables false
namespace Go.Proofs.Ytbeocehhclfbiaa.Lite
open Go
attribute [local simp] WL_of WL_nil WL_blk WL_skip WL_label WL_exit WL_goto WL_seq WL_block WL_cond WL_reg WL_ret WJ_nil WJ_ex WJ_gt WJ_rt WJ_exb WJ_gtb WJ_rtb WLO_nil WLO_call WO_mv WO_pick WO_new WO_box WO_ld WO_ldn WO_st WO_off WO_ixa WO_ixs WO_fld WO_fldn WO_ixv WO_ixvn WO_ixb WO_bin WO_eqb WO_isn WO_eqs WO_not WO_conv WO_mkf WO_bld WO_bls WO_sla WO_sls WO_sl0 WO_len WO_app WO_mnx WO_ext WO_nilc wants_none wants_some wantv_b wantv_t WLV_true WLV_false WLC_false WLB_true WLB_false evX_t evX_c evXs_nil evXs_cons look_put look_putN look_cons look_arg0 look_arg stepK binOpA intOp strOp evRes oneOf outs gc toDV AV.dat? I Bo av_s List.map List.append_nil getO putO AV.cellsOf bne WL_dreg WLP_nil WLP_call WP_mv WP_pick WP_new WP_box WP_ld WP_ldn WP_off WP_ixa WP_ixs WP_fld WP_fldn WP_ixv WP_ixvn WP_ixb WP_bin WP_eqb WP_isn WP_eqs WP_not WP_conv WP_mkf WP_bld WP_bls WP_sla WP_sls WP_sl0 WP_len WP_app WP_mnx WP_ext WP_nilc WLPV_true WLPV_false WLPC_false WLC_tells WLPC_tells padH onNm onEx List.getElem?_cons_zero List.getElem?_cons_succ List.getElem?_nil restrict AV.lows lay AV.isCell lowObj AObj.lows WJ_nm AV.lows.go WL_scope onGt_rt onGt_nm onGt_ex WL_sreg WP_st preSt eraseB List.set_cons_zero List.set_cons_succ

noncomputable def TVR : Tbl := tbl [(74, view_place_F), (75, list_Right_F)]
theorem TVR_ok : TblOK Try.prog TVR := tbl_ok (by
  simp only [List.mem_cons, List.not_mem_nil, or_false]
  rintro p (rfl | rfl)
  · exact view_place
  · exact list_Right)
instance : Has TVR 74 view_place_F := ⟨rfl⟩
instance : Has TVR 75 list_Right_F := ⟨rfl⟩

theorem other_clo (v : VW) {rd : Rd} {env : Env} {Q : Ex → Env → St → Prop} {dst : Option Nat} {os : List COp} {fs : List Fr} {n : Int} (h : WLO TVR rd os fs (putE env dst (.d (.bool (other v.id n)))) ⟨[some (.cells v.cs)], []⟩ Q) :
    WLC TVR rd (some true) (some (.fn 73 [.ptr 0 0])) (some [.d (.int .i64 n)]) dst os fs env ⟨[some (.cells v.cs)], []⟩ Q := by
  refine WLC_fn (cf := cf73) rfl rfl rfl ?_
  simp [cf73, afterC, -getElem?_pos, cs_0]
  all_goals (try (first | refine WLV_splitN (fun hs => ?_) (fun hs => ?_) | refine WLC_splitN (fun hs => ?_) (fun hs => ?_) | refine WLB_splitN (fun hs => ?_) (fun hs => ?_) | refine WLPV_splitN (fun hs => ?_) (fun hs => ?_) | refine WLPC_splitN (fun hs => ?_) (fun hs => ?_) | refine WLPV_split (fun hs => ?_) (fun hs => ?_) | refine WLPC_split (fun hs => ?_) (fun hs => ?_) | refine WLV_split (fun hs => ?_) (fun hs => ?_) | refine WLC_split (fun hs => ?_) (fun hs => ?_) | refine WLB_split (fun hs => ?_) (fun hs => ?_)))
  all_goals (try (have hs' := hs; simp at hs'))
  all_goals (try simp [*, -getElem?_pos, afterC, cs_0, cs_lows, cs_all])
  all_goals (try (first | refine WLV_splitN (fun hs => ?_) (fun hs => ?_) | refine WLC_splitN (fun hs => ?_) (fun hs => ?_) | refine WLB_splitN (fun hs => ?_) (fun hs => ?_) | refine WLPV_splitN (fun hs => ?_) (fun hs => ?_) | refine WLPC_splitN (fun hs => ?_) (fun hs => ?_) | refine WLPV_split (fun hs => ?_) (fun hs => ?_) | refine WLPC_split (fun hs => ?_) (fun hs => ?_) | refine WLV_split (fun hs => ?_) (fun hs => ?_) | refine WLC_split (fun hs => ?_) (fun hs => ?_) | refine WLB_split (fun hs => ?_) (fun hs => ?_)))
  all_goals (try (have hs' := hs; simp at hs'))
  all_goals (try simp [*, -getElem?_pos, afterC, cs_0, cs_lows, cs_all])
  all_goals (try (first | refine WLV_splitN (fun hs => ?_) (fun hs => ?_) | refine WLC_splitN (fun hs => ?_) (fun hs => ?_) | refine WLB_splitN (fun hs => ?_) (fun hs => ?_) | refine WLPV_splitN (fun hs => ?_) (fun hs => ?_) | refine WLPC_splitN (fun hs => ?_) (fun hs => ?_) | refine WLPV_split (fun hs => ?_) (fun hs => ?_) | refine WLPC_split (fun hs => ?_) (fun hs => ?_) | refine WLV_split (fun hs => ?_) (fun hs => ?_) | refine WLC_split (fun hs => ?_) (fun hs => ?_) | refine WLB_split (fun hs => ?_) (fun hs => ?_)))
  all_goals (try (have hs' := hs; simp at hs'))
  all_goals (try simp [*, -getElem?_pos, afterC, cs_0, cs_lows, cs_all])
  all_goals (unfold other at h; simp only [*, Bool.true_and, Bool.false_and, Bool.or_false, Bool.true_or, Bool.false_or] at h; exact h)

def K52a : CCode := (.loop [1, 4, 41, 42, 43] (.seq (.reg (⟨(some 44), .bin .lss (.t 43) (.t 42), none⟩ ::
    []))
  (.seq (.cond (.t 44) .skip (.exit 0))
  (.seq (.block 1 (.seq (.reg (⟨(some 45), .mv (.t 43), none⟩ ::
    ⟨(some 46), .ixs 1 (.t 41) (.t 43), none⟩ ::
    ⟨(some 47), .ld (.t 46), none⟩ ::
    ⟨(some 5), .mv (.t 45), none⟩ ::
    ⟨(some 6), .mv (.t 47), none⟩ ::
    []))
  (.seq (.reg (⟨(some 48), .mv (.t 6), none⟩ ::
    ⟨(some 49), .call (.c (.fn 74 [])) [(.t 48)], none⟩ ::
    ⟨(some 50), .not (.t 49), none⟩ ::
    ⟨(some 51), .mv (.t 50), none⟩ ::
    ⟨(some 52), .mv (.t 5), (some (51, false))⟩ ::
    ⟨(some 53), .bin .gtr (.t 52) (.c (.d (.int .i64 0))), (some (51, false))⟩ ::
    ⟨(some 54), .mv (.t 53), (some (51, false))⟩ ::
    ⟨(some 55), .mv (.t 6), (some (54, true))⟩ ::
    ⟨(some 56), .off 1 (.t 1), (some (54, true))⟩ ::
    ⟨(some 57), .ld (.t 56), (some (54, true))⟩ ::
    ⟨(some 58), .mv (.t 5), (some (54, true))⟩ ::
    ⟨(some 59), .bin .sub (.t 58) (.c (.d (.int .i64 1))), (some (54, true))⟩ ::
    ⟨(some 60), .ixs 1 (.t 57) (.t 59), (some (54, true))⟩ ::
    ⟨(some 61), .ld (.t 60), (some (54, true))⟩ ::
    ⟨(some 62), .bin .leq (.t 55) (.t 61), (some (54, true))⟩ ::
    ⟨(some 63), .pick (.t 54) (.t 62) (.c (.d (.bool false))), (some (51, false))⟩ ::
    ⟨(some 64), .pick (.t 51) (.c (.d (.bool true))) (.t 63), none⟩ ::
    []))
  (.cond (.t 64) (.goto 0) .skip))))
  (.reg (⟨(some 65), .bin .add (.t 43) (.c (.d (.int .i64 1))), none⟩ ::
    ⟨(some 43), .mv (.t 65), none⟩ ::
    []))))))
theorem K52a_eq : K52a = .loop [1, 4, 41, 42, 43] (.seq (.reg (⟨(some 44), .bin .lss (.t 43) (.t 42), none⟩ ::
    []))
  (.seq (.cond (.t 44) .skip (.exit 0))
  (.seq (.block 1 (.seq (.reg (⟨(some 45), .mv (.t 43), none⟩ ::
    ⟨(some 46), .ixs 1 (.t 41) (.t 43), none⟩ ::
    ⟨(some 47), .ld (.t 46), none⟩ ::
    ⟨(some 5), .mv (.t 45), none⟩ ::
    ⟨(some 6), .mv (.t 47), none⟩ ::
    []))
  (.seq (.reg (⟨(some 48), .mv (.t 6), none⟩ ::
    ⟨(some 49), .call (.c (.fn 74 [])) [(.t 48)], none⟩ ::
    ⟨(some 50), .not (.t 49), none⟩ ::
    ⟨(some 51), .mv (.t 50), none⟩ ::
    ⟨(some 52), .mv (.t 5), (some (51, false))⟩ ::
    ⟨(some 53), .bin .gtr (.t 52) (.c (.d (.int .i64 0))), (some (51, false))⟩ ::
    ⟨(some 54), .mv (.t 53), (some (51, false))⟩ ::
    ⟨(some 55), .mv (.t 6), (some (54, true))⟩ ::
    ⟨(some 56), .off 1 (.t 1), (some (54, true))⟩ ::
    ⟨(some 57), .ld (.t 56), (some (54, true))⟩ ::
    ⟨(some 58), .mv (.t 5), (some (54, true))⟩ ::
    ⟨(some 59), .bin .sub (.t 58) (.c (.d (.int .i64 1))), (some (54, true))⟩ ::
    ⟨(some 60), .ixs 1 (.t 57) (.t 59), (some (54, true))⟩ ::
    ⟨(some 61), .ld (.t 60), (some (54, true))⟩ ::
    ⟨(some 62), .bin .leq (.t 55) (.t 61), (some (54, true))⟩ ::
    ⟨(some 63), .pick (.t 54) (.t 62) (.c (.d (.bool false))), (some (51, false))⟩ ::
    ⟨(some 64), .pick (.t 51) (.c (.d (.bool true))) (.t 63), none⟩ ::
    []))
  (.cond (.t 64) (.goto 0) .skip))))
  (.reg (⟨(some 65), .bin .add (.t 43) (.c (.d (.int .i64 1))), none⟩ ::
    ⟨(some 43), .mv (.t 65), none⟩ ::
    []))))) := rfl
theorem base52_loop (v : VW) : ∀ (k i : Nat), v.base.length - i = k → i ≤ v.base.length → ∀ (env : Env), look env 1 = some (.ptr 0 0) → look env 4 = some (.fn 73 [.ptr 0 0]) → look env 41 = some (vsI v.base) → look env 42 = some (.d (.int .i64 v.base.length)) → look env 43 = some (.d (.int .i64 i)) →
    ∀ (Q : Ex → Env → St → Prop), ((∀ j n, i ≤ j → v.base[j]? = some n → bAt v.base j n = true) → ∀ env', look env' 1 = some (.ptr 0 0) → look env' 4 = some (.fn 73 [.ptr 0 0]) → Q (.ex 0) env' ⟨[some (.cells v.cs)], []⟩) →
      ((∃ j n, i ≤ j ∧ v.base[j]? = some n ∧ bAt v.base j n = false) → ∀ env', Q (.gt 0) env' ⟨[some (.cells v.cs)], []⟩) → W TVR ⟨[], 0⟩ K52a env ⟨[some (.cells v.cs)], []⟩ Q := by
  have hl := v.hb
  intro k
  induction k with
  | zero =>
    intro i hk hi env h1 h4 h41 h42 h43 Q hQ1 hQ2
    have hlt : ¬ i < v.base.length := by omega
    rw [K52a_eq, W_loop]
    simp [-getElem?_pos, h1, h4, h41, h42, h43, hlt]
    refine hQ1 (fun j n hj hn => absurd (List.getElem?_eq_some_iff.1 hn).1 (by omega)) _ ?_ ?_ <;> simp [-getElem?_pos, h1, h4]
  | succ k ih =>
    intro i hk hi env h1 h4 h41 h42 h43 Q hQ1 hQ2
    have hlt : i < v.base.length := by omega
    obtain ⟨n, hn⟩ : ∃ n, v.base[i]? = some n := ⟨_, List.getElem?_eq_getElem hlt⟩
    have bad : bAt v.base i n = false → ∃ j n, i ≤ j ∧ v.base[j]? = some n ∧ bAt v.base j n = false := fun h => ⟨i, n, Nat.le_refl _, hn, h⟩
    have hw := wrapN1 i (by omega)
    rw [K52a_eq, W_loop]
    cases i with
    | zero =>
      simp [-getElem?_pos, h1, h4, h41, h42, h43, cs_1, rowsI_get, hn, hlt]
      all_goals (try (first | refine WLV_splitN (fun hs => ?_) (fun hs => ?_) | refine WLC_splitN (fun hs => ?_) (fun hs => ?_) | refine WLB_splitN (fun hs => ?_) (fun hs => ?_) | refine WLPV_splitN (fun hs => ?_) (fun hs => ?_) | refine WLPC_splitN (fun hs => ?_) (fun hs => ?_) | refine WLPV_split (fun hs => ?_) (fun hs => ?_) | refine WLPC_split (fun hs => ?_) (fun hs => ?_) | refine WLV_split (fun hs => ?_) (fun hs => ?_) | refine WLC_split (fun hs => ?_) (fun hs => ?_) | refine WLB_split (fun hs => ?_) (fun hs => ?_)))
      all_goals (try (have hs' := hs; simp at hs'))
      all_goals (try simp [*, -getElem?_pos, h1, h4, h41, h42, h43, cs_1, rowsI_get, hn, cs_all, cs_lows])
      all_goals (try (first | refine WLV_splitN (fun hs => ?_) (fun hs => ?_) | refine WLC_splitN (fun hs => ?_) (fun hs => ?_) | refine WLB_splitN (fun hs => ?_) (fun hs => ?_) | refine WLPV_splitN (fun hs => ?_) (fun hs => ?_) | refine WLPC_splitN (fun hs => ?_) (fun hs => ?_) | refine WLPV_split (fun hs => ?_) (fun hs => ?_) | refine WLPC_split (fun hs => ?_) (fun hs => ?_) | refine WLV_split (fun hs => ?_) (fun hs => ?_) | refine WLC_split (fun hs => ?_) (fun hs => ?_) | refine WLB_split (fun hs => ?_) (fun hs => ?_)))
      all_goals (try (have hs' := hs; simp at hs'))
      all_goals (try simp [*, -getElem?_pos, h1, h4, h41, h42, h43, cs_1, rowsI_get, hn, cs_all, cs_lows])
      all_goals (try (first | refine WLV_splitN (fun hs => ?_) (fun hs => ?_) | refine WLC_splitN (fun hs => ?_) (fun hs => ?_) | refine WLB_splitN (fun hs => ?_) (fun hs => ?_) | refine WLPV_splitN (fun hs => ?_) (fun hs => ?_) | refine WLPC_splitN (fun hs => ?_) (fun hs => ?_) | refine WLPV_split (fun hs => ?_) (fun hs => ?_) | refine WLPC_split (fun hs => ?_) (fun hs => ?_) | refine WLV_split (fun hs => ?_) (fun hs => ?_) | refine WLC_split (fun hs => ?_) (fun hs => ?_) | refine WLB_split (fun hs => ?_) (fun hs => ?_)))
      all_goals (try (have hs' := hs; simp at hs'))
      all_goals (try simp [*, -getElem?_pos, h1, h4, h41, h42, h43, cs_1, rowsI_get, hn, cs_all, cs_lows])
      all_goals first
        | (refine hQ2 (bad ?_) _; simp [*, bAt]; done)
        | (refine (WL_of (c := K52a)).1 (ih 1 (by omega) (by omega) _ ?_ ?_ ?_ ?_ ?_ Q (fun hall => hQ1 fun j m hj hm => ?_) (fun ⟨j, m, hj, h⟩ => hQ2 ⟨j, m, by omega, h⟩))
           · simp [-getElem?_pos, h1]
           · simp [-getElem?_pos, h4]
           · simp [-getElem?_pos, h41]
           · simp [-getElem?_pos, h42]
           · simp [-getElem?_pos]; rfl
           · cases j with
             | zero => rw [hn] at hm; cases hm; simp [*, bAt]
             | succ j => exact hall _ m (by omega) hm)
    | succ j =>
      obtain ⟨m, hm⟩ : ∃ m, v.base[j]? = some m := ⟨_, List.getElem?_eq_getElem (by omega)⟩
      have hw1 := wrapN j (by omega)
      have hgd : v.base.getD j 0 = m := by rw [List.getD_eq_getElem?_getD, hm]; rfl
      have e1 : ((↑(j + 1) : Int) - 1) = (j : Int) := by omega
      have e2 : (0 : Int) < ↑(j + 1) := by omega
      simp [-getElem?_pos, h1, h4, h41, h42, h43, cs_1, rowsI_get, hn, hlt, -Int.natCast_add]
      all_goals (try (first | refine WLV_splitN (fun hs => ?_) (fun hs => ?_) | refine WLC_splitN (fun hs => ?_) (fun hs => ?_) | refine WLB_splitN (fun hs => ?_) (fun hs => ?_) | refine WLPV_splitN (fun hs => ?_) (fun hs => ?_) | refine WLPC_splitN (fun hs => ?_) (fun hs => ?_) | refine WLPV_split (fun hs => ?_) (fun hs => ?_) | refine WLPC_split (fun hs => ?_) (fun hs => ?_) | refine WLV_split (fun hs => ?_) (fun hs => ?_) | refine WLC_split (fun hs => ?_) (fun hs => ?_) | refine WLB_split (fun hs => ?_) (fun hs => ?_)))
      all_goals (try (have hs' := hs; simp at hs'))
      all_goals (try simp [*, -getElem?_pos, h1, h4, h41, h42, h43, cs_1, rowsI_get, hn, cs_all, cs_lows, -Int.natCast_add])
      all_goals (try (first | refine WLV_splitN (fun hs => ?_) (fun hs => ?_) | refine WLC_splitN (fun hs => ?_) (fun hs => ?_) | refine WLB_splitN (fun hs => ?_) (fun hs => ?_) | refine WLPV_splitN (fun hs => ?_) (fun hs => ?_) | refine WLPC_splitN (fun hs => ?_) (fun hs => ?_) | refine WLPV_split (fun hs => ?_) (fun hs => ?_) | refine WLPC_split (fun hs => ?_) (fun hs => ?_) | refine WLV_split (fun hs => ?_) (fun hs => ?_) | refine WLC_split (fun hs => ?_) (fun hs => ?_) | refine WLB_split (fun hs => ?_) (fun hs => ?_)))
      all_goals (try (have hs' := hs; simp at hs'))
      all_goals (try simp [*, -getElem?_pos, h1, h4, h41, h42, h43, cs_1, rowsI_get, hn, cs_all, cs_lows, -Int.natCast_add])
      all_goals (try (first | refine WLV_splitN (fun hs => ?_) (fun hs => ?_) | refine WLC_splitN (fun hs => ?_) (fun hs => ?_) | refine WLB_splitN (fun hs => ?_) (fun hs => ?_) | refine WLPV_splitN (fun hs => ?_) (fun hs => ?_) | refine WLPC_splitN (fun hs => ?_) (fun hs => ?_) | refine WLPV_split (fun hs => ?_) (fun hs => ?_) | refine WLPC_split (fun hs => ?_) (fun hs => ?_) | refine WLV_split (fun hs => ?_) (fun hs => ?_) | refine WLC_split (fun hs => ?_) (fun hs => ?_) | refine WLB_split (fun hs => ?_) (fun hs => ?_)))
      all_goals (try (have hs' := hs; simp at hs'))
      all_goals (try simp [*, -getElem?_pos, h1, h4, h41, h42, h43, cs_1, rowsI_get, hn, cs_all, cs_lows, -Int.natCast_add])
      all_goals (try (first | refine WLV_splitN (fun hs => ?_) (fun hs => ?_) | refine WLC_splitN (fun hs => ?_) (fun hs => ?_) | refine WLB_splitN (fun hs => ?_) (fun hs => ?_) | refine WLPV_splitN (fun hs => ?_) (fun hs => ?_) | refine WLPC_splitN (fun hs => ?_) (fun hs => ?_) | refine WLPV_split (fun hs => ?_) (fun hs => ?_) | refine WLPC_split (fun hs => ?_) (fun hs => ?_) | refine WLV_split (fun hs => ?_) (fun hs => ?_) | refine WLC_split (fun hs => ?_) (fun hs => ?_) | refine WLB_split (fun hs => ?_) (fun hs => ?_)))
      all_goals (try (have hs' := hs; simp at hs'))
      all_goals (try simp [*, -getElem?_pos, h1, h4, h41, h42, h43, cs_1, rowsI_get, hn, cs_all, cs_lows, -Int.natCast_add])
      all_goals first
        | (refine hQ2 (bad ?_) _; simp [*, bAt]; done)
        | (refine (WL_of (c := K52a)).1 (ih (j + 1 + 1) (by omega) (by omega) _ ?_ ?_ ?_ ?_ ?_ Q (fun hall => hQ1 fun i m' hi hm' => ?_) (fun ⟨i, m', hi, h⟩ => hQ2 ⟨i, m', by omega, h⟩))
           · simp [-getElem?_pos, h1]
           · simp [-getElem?_pos, h4]
           · simp [-getElem?_pos, h41]
           · simp [-getElem?_pos, h42]
           · simp [-getElem?_pos, hw, -Int.natCast_add]
           · rcases Nat.lt_or_ge (j + 1) i with h | h
             · exact hall _ m' (by omega) hm'
             · have : i = j + 1 := by omega
               subst this
               rw [hn] at hm'; cases hm'; simp [*, bAt])

def K52b : CCode := (.loop [4, 67, 68] (.seq (.reg (⟨(some 69), .bin .lss (.t 68) (.c (.d (.int .i64 16))), none⟩ ::
    []))
  (.seq (.cond (.t 69) .skip (.exit 2))
  (.seq (.block 3 (.seq (.reg (⟨(some 70), .ixv 16 (.t 67) (.t 68), none⟩ ::
    ⟨(some 8), .mv (.t 70), none⟩ ::
    []))
  (.seq (.reg (⟨(some 71), .mv (.t 4), none⟩ ::
    ⟨(some 72), .mv (.t 8), none⟩ ::
    ⟨(some 73), .call (.t 71) [(.t 72)], none⟩ ::
    ⟨(some 74), .not (.t 73), none⟩ ::
    []))
  (.cond (.t 74) (.goto 0) .skip))))
  (.reg (⟨(some 75), .bin .add (.t 68) (.c (.d (.int .i64 1))), none⟩ ::
    ⟨(some 68), .mv (.t 75), none⟩ ::
    []))))))
theorem K52b_eq : K52b = .loop [4, 67, 68] (.seq (.reg (⟨(some 69), .bin .lss (.t 68) (.c (.d (.int .i64 16))), none⟩ ::
    []))
  (.seq (.cond (.t 69) .skip (.exit 2))
  (.seq (.block 3 (.seq (.reg (⟨(some 70), .ixv 16 (.t 67) (.t 68), none⟩ ::
    ⟨(some 8), .mv (.t 70), none⟩ ::
    []))
  (.seq (.reg (⟨(some 71), .mv (.t 4), none⟩ ::
    ⟨(some 72), .mv (.t 8), none⟩ ::
    ⟨(some 73), .call (.t 71) [(.t 72)], none⟩ ::
    ⟨(some 74), .not (.t 73), none⟩ ::
    []))
  (.cond (.t 74) (.goto 0) .skip))))
  (.reg (⟨(some 75), .bin .add (.t 68) (.c (.d (.int .i64 1))), none⟩ ::
    ⟨(some 68), .mv (.t 75), none⟩ ::
    []))))) := rfl
theorem fin52_loop (v : VW) : ∀ (k i : Nat), 16 - i = k → i ≤ 16 → ∀ (env : Env), look env 4 = some (.fn 73 [.ptr 0 0]) → look env 67 = some (.agg (v.fin.map fun n => .d (.int .i64 n))) → look env 68 = some (.d (.int .i64 i)) →
    ∀ (Q : Ex → Env → St → Prop), ((∀ n ∈ v.fin.drop i, other v.id n = true) → ∀ env', Q (.ex 2) env' ⟨[some (.cells v.cs)], []⟩) →
      ((∃ n ∈ v.fin.drop i, other v.id n = false) → ∀ env', Q (.gt 0) env' ⟨[some (.cells v.cs)], []⟩) → W TVR ⟨[], 0⟩ K52b env ⟨[some (.cells v.cs)], []⟩ Q := by
  have hf := v.hf
  intro k
  induction k with
  | zero =>
    intro i hk hi env h4 h67 h68 Q hQ1 hQ2
    have e : ¬ ((i : Int) < 16) := by omega
    rw [K52b_eq, W_loop]
    simp [-getElem?_pos, h4, h67, h68, e]
    refine hQ1 (fun n hn => ?_) _
    rw [List.drop_eq_nil_of_le (by omega)] at hn; cases hn
  | succ k ih =>
    intro i hk hi env h4 h67 h68 Q hQ1 hQ2
    obtain ⟨n, hn⟩ : ∃ n, v.fin[i]? = some n := ⟨_, List.getElem?_eq_getElem (by omega)⟩
    have hd : v.fin.drop i = n :: v.fin.drop (i + 1) := by rw [List.drop_eq_getElem_cons (by omega)]; congr 1; exact (List.getElem?_eq_some_iff.1 hn).2
    have hw := wrapN1 i (by omega)
    have e : ((i : Int) < 16) := by omega
    rw [K52b_eq, W_loop]
    simp [-getElem?_pos, h4, h67, h68, e, hn, -Int.natCast_add]
    refine other_clo v ?_
    simp [-getElem?_pos, h4, h67, h68, e, hn, -Int.natCast_add]
    all_goals (try (first | refine WLV_splitN (fun hs => ?_) (fun hs => ?_) | refine WLC_splitN (fun hs => ?_) (fun hs => ?_) | refine WLB_splitN (fun hs => ?_) (fun hs => ?_) | refine WLPV_splitN (fun hs => ?_) (fun hs => ?_) | refine WLPC_splitN (fun hs => ?_) (fun hs => ?_) | refine WLPV_split (fun hs => ?_) (fun hs => ?_) | refine WLPC_split (fun hs => ?_) (fun hs => ?_) | refine WLV_split (fun hs => ?_) (fun hs => ?_) | refine WLC_split (fun hs => ?_) (fun hs => ?_) | refine WLB_split (fun hs => ?_) (fun hs => ?_)))
    all_goals (try (have hs' := hs; simp at hs'))
    all_goals (try simp [*, -getElem?_pos, h4, h67, h68, hn, cs_all, cs_lows, lows_ints, -Int.natCast_add])
    all_goals first
      | (refine hQ2 ⟨n, by rw [hd]; simp, ?_⟩ _; simp [*]; done)
      | (refine (WL_of (c := K52b)).1 (ih (i + 1) (by omega) (by omega) _ ?_ ?_ ?_ Q (fun hall => hQ1 fun m hm => ?_) (fun ⟨m, hm, h⟩ => hQ2 ⟨m, by rw [hd]; exact List.mem_cons_of_mem _ hm, h⟩))
         · simp [-getElem?_pos, h4]
         · simp [-getElem?_pos, h67]
         · simp [-getElem?_pos, hw, -Int.natCast_add]
         · rw [hd] at hm
           rcases List.mem_cons.1 hm with rfl | hm
           · assumption
           · exact hall m hm)
theorem view_Right : Pure Try.prog 52 right_F := by
  refine con TVR_ok rfl rfl fun v _ => ⟨rfl, ?_⟩
  simp [cf52, V_av, -getElem?_pos, WL_scope, cs_0, cs_1, cs_2, cs_3, cs_length, cs_take, cs_lows, cs_all, stepK.lenA, rowsI_length]
  all_goals (try (first | refine WLV_splitN (fun hs => ?_) (fun hs => ?_) | refine WLC_splitN (fun hs => ?_) (fun hs => ?_) | refine WLB_splitN (fun hs => ?_) (fun hs => ?_) | refine WLPV_splitN (fun hs => ?_) (fun hs => ?_) | refine WLPC_splitN (fun hs => ?_) (fun hs => ?_) | refine WLPV_split (fun hs => ?_) (fun hs => ?_) | refine WLPC_split (fun hs => ?_) (fun hs => ?_) | refine WLV_split (fun hs => ?_) (fun hs => ?_) | refine WLC_split (fun hs => ?_) (fun hs => ?_) | refine WLB_split (fun hs => ?_) (fun hs => ?_)))
  all_goals (try (have hs' := hs; simp at hs'))
  all_goals (try simp [*, -getElem?_pos, cs_0, cs_1, cs_2, cs_3, cs_length, cs_take, cs_lows, cs_all, stepK.lenA, rowsI_length])
  all_goals (try (first | refine WLV_splitN (fun hs => ?_) (fun hs => ?_) | refine WLC_splitN (fun hs => ?_) (fun hs => ?_) | refine WLB_splitN (fun hs => ?_) (fun hs => ?_) | refine WLPV_splitN (fun hs => ?_) (fun hs => ?_) | refine WLPC_splitN (fun hs => ?_) (fun hs => ?_) | refine WLPV_split (fun hs => ?_) (fun hs => ?_) | refine WLPC_split (fun hs => ?_) (fun hs => ?_) | refine WLV_split (fun hs => ?_) (fun hs => ?_) | refine WLC_split (fun hs => ?_) (fun hs => ?_) | refine WLB_split (fun hs => ?_) (fun hs => ?_)))
  all_goals (try (have hs' := hs; simp at hs'))
  all_goals (try simp [*, -getElem?_pos, cs_0, cs_1, cs_2, cs_3, cs_length, cs_take, cs_lows, cs_all, stepK.lenA, rowsI_length])
  all_goals (try (first | refine WLV_splitN (fun hs => ?_) (fun hs => ?_) | refine WLC_splitN (fun hs => ?_) (fun hs => ?_) | refine WLB_splitN (fun hs => ?_) (fun hs => ?_) | refine WLPV_splitN (fun hs => ?_) (fun hs => ?_) | refine WLPC_splitN (fun hs => ?_) (fun hs => ?_) | refine WLPV_split (fun hs => ?_) (fun hs => ?_) | refine WLPC_split (fun hs => ?_) (fun hs => ?_) | refine WLV_split (fun hs => ?_) (fun hs => ?_) | refine WLC_split (fun hs => ?_) (fun hs => ?_) | refine WLB_split (fun hs => ?_) (fun hs => ?_)))
  all_goals (try (have hs' := hs; simp at hs'))
  all_goals (try simp [*, -getElem?_pos, cs_0, cs_1, cs_2, cs_3, cs_length, cs_take, cs_lows, cs_all, stepK.lenA, rowsI_length])
  all_goals (try (first | refine WLV_splitN (fun hs => ?_) (fun hs => ?_) | refine WLC_splitN (fun hs => ?_) (fun hs => ?_) | refine WLB_splitN (fun hs => ?_) (fun hs => ?_) | refine WLPV_splitN (fun hs => ?_) (fun hs => ?_) | refine WLPC_splitN (fun hs => ?_) (fun hs => ?_) | refine WLPV_split (fun hs => ?_) (fun hs => ?_) | refine WLPC_split (fun hs => ?_) (fun hs => ?_) | refine WLV_split (fun hs => ?_) (fun hs => ?_) | refine WLC_split (fun hs => ?_) (fun hs => ?_) | refine WLB_split (fun hs => ?_) (fun hs => ?_)))
  all_goals (try (have hs' := hs; simp at hs'))
  all_goals (try simp [*, -getElem?_pos, cs_0, cs_1, cs_2, cs_3, cs_length, cs_take, cs_lows, cs_all, stepK.lenA, rowsI_length])
  all_goals try (
    refine onGt_go (rest := .seq .skip (.seq (.reg (⟨some 2, .mv (.c (.d (.bool false))), none⟩ :: [])) .ret)) rfl ?_
    simp [-getElem?_pos, cs_all]
    first | (simp [VW.right, *]; done) | (have h3 : v.right = false := (by unfold VW.right; simp; omega); exact h3))
  refine other_clo v ?_
  simp [-getElem?_pos]
  all_goals (try (first | refine WLV_splitN (fun hs => ?_) (fun hs => ?_) | refine WLC_splitN (fun hs => ?_) (fun hs => ?_) | refine WLB_splitN (fun hs => ?_) (fun hs => ?_) | refine WLPV_splitN (fun hs => ?_) (fun hs => ?_) | refine WLPC_splitN (fun hs => ?_) (fun hs => ?_) | refine WLPV_split (fun hs => ?_) (fun hs => ?_) | refine WLPC_split (fun hs => ?_) (fun hs => ?_) | refine WLV_split (fun hs => ?_) (fun hs => ?_) | refine WLC_split (fun hs => ?_) (fun hs => ?_) | refine WLB_split (fun hs => ?_) (fun hs => ?_)))
  all_goals (try (have hs' := hs; simp at hs'))
  all_goals (try simp [*, -getElem?_pos, cs_1, stepK.lenA, rowsI_length])
  · refine onGt_go (rest := .seq .skip (.seq (.reg (⟨some 2, .mv (.c (.d (.bool false))), none⟩ :: [])) .ret)) rfl ?_
    simp [-getElem?_pos, cs_all]
    simp [VW.right, *]
  rw [WL_code]
  have e2 : 2 ≤ v.base.length := by omega
  have e4 : v.base.length ≤ 4 := by omega
  refine base52_loop v v.base.length 0 (by omega) (by omega) _ ?_ ?_ ?_ ?_ ?_ _ (fun hall env' h1 h4 => ?_) (fun hbad env' => ?_)
  · simp [-getElem?_pos]
  · simp [-getElem?_pos]
  · simp [-getElem?_pos]
  · simp [-getElem?_pos]
  · simp [-getElem?_pos]
  · simp [-getElem?_pos, h1, h4, cs_length, cs_fin]
    rw [WL_code]
    have hbo : baseOk v.base = true := (baseOk_iff _).2 fun j n hn => hall j n (Nat.zero_le _) hn
    refine fin52_loop v 16 0 (by omega) (by omega) _ ?_ ?_ ?_ _ (fun hall2 env2 => ?_) (fun hbad2 env2 => ?_)
    · simp [-getElem?_pos, h4]
    · simp [-getElem?_pos]
    · simp [-getElem?_pos]
    · have hfa : v.fin.all (other v.id) = true := by rw [List.all_eq_true]; exact fun n hn => hall2 n (by simpa using hn)
      simp [-getElem?_pos]
      simp [VW.right, *]
    · have hfa : v.fin.all (other v.id) = false := by
        obtain ⟨n, hn, hb⟩ := hbad2
        cases h : v.fin.all (other v.id) with
        | false => rfl
        | true => rw [List.all_eq_true.1 h n (by simpa using hn)] at hb; cases hb
      simp only [WJ_gtb, WJ_gt, WJ_nil]
      refine onGt_go (rest := .seq .skip (.seq (.reg (⟨some 2, .mv (.c (.d (.bool false))), none⟩ :: [])) .ret)) rfl ?_
      simp [-getElem?_pos, cs_all]
      simp only [VW.right, hfa, Bool.and_false]
  · have hbo : baseOk v.base = false := by
      obtain ⟨j, n, _, hn, hb⟩ := hbad
      cases h : baseOk v.base with
      | false => rfl
      | true => rw [(baseOk_iff _).1 h j n hn] at hb; cases hb
    simp only [WJ_gtb, WJ_gt, WJ_nil]
    refine onGt_go (rest := .seq .skip (.seq (.reg (⟨some 2, .mv (.c (.d (.bool false))), none⟩ :: [])) .ret)) rfl ?_
    simp [-getElem?_pos, cs_all]
    simp only [VW.right, hbo, Bool.and_false, Bool.false_and]
noncomputable abbrev view_Right_F := right_F
end Go.Proofs.Ytbeocehhclfbiaa.Lite
namespace Go.Proofs.Ytbeocehhclfbiaa.Lite
open Go
attribute [local simp] WL_of WL_nil WL_blk WL_skip WL_label WL_exit WL_goto WL_seq WL_block WL_cond WL_reg WL_ret WJ_nil WJ_ex WJ_gt WJ_rt WJ_exb WJ_gtb WJ_rtb WLO_nil WLO_call WO_mv WO_pick WO_new WO_box WO_ld WO_ldn WO_st WO_off WO_ixa WO_ixs WO_fld WO_fldn WO_ixv WO_ixvn WO_ixb WO_bin WO_eqb WO_isn WO_eqs WO_not WO_conv WO_mkf WO_bld WO_bls WO_sla WO_sls WO_sl0 WO_len WO_app WO_mnx WO_ext WO_nilc wants_none wants_some wantv_b wantv_t WLV_true WLV_false WLC_false WLB_true WLB_false evX_t evX_c evXs_nil evXs_cons look_put look_putN look_cons look_arg0 look_arg stepK binOpA intOp strOp evRes oneOf outs gc toDV AV.dat? I Bo av_s List.map List.append_nil getO putO AV.cellsOf bne WL_dreg WLP_nil WLP_call WP_mv WP_pick WP_new WP_box WP_ld WP_ldn WP_off WP_ixa WP_ixs WP_fld WP_fldn WP_ixv WP_ixvn WP_ixb WP_bin WP_eqb WP_isn WP_eqs WP_not WP_conv WP_mkf WP_bld WP_bls WP_sla WP_sls WP_sl0 WP_len WP_app WP_mnx WP_ext WP_nilc WLPV_true WLPV_false WLPC_false WLC_tells WLPC_tells padH onNm onEx List.getElem?_cons_zero List.getElem?_cons_succ List.getElem?_nil restrict AV.lows lay AV.isCell lowObj AObj.lows WJ_nm AV.lows.go WL_scope onGt_rt onGt_nm onGt_ex WL_sreg WP_st preSt eraseB List.set_cons_zero List.set_cons_succ

def ownF (key : Int) : Int → List Int → Int
  | at', [] => at'
  | at', x :: l => ownF key (bif decide (far key x < far key at') then place x else at') l
def owner (l : List Int) (key : Int) : Int × Bool := match l with
  | [] => (0, false)
  | x :: xs => (ownF key (place x) xs, true)
noncomputable def owner_F := orcOf (fun p : List Int × Int => [SI p.1, I p.2]) (fun p => p.1.length < 9223372036854775808) (fun p => [I (owner p.1 p.2).1, Bo (owner p.1 p.2).2])
instance (x : Int) (l : List Int) [h : Fact (l.length < 9223372036854775808)] : Tells owner_F [.d (.sl (rowsI l)), .d (.int .i64 x)] (.tup [.d (.int .i64 (owner l x).1), .d (.bool (owner l x).2)]) :=
  ⟨[SI l, I x], [I (owner l x).1, Bo (owner l x).2], fun h => by simp [toDVs, toDV, AV.dat?, I, SI], orcOf_eq (enc := fun p : List Int × Int => [SI p.1, I p.2]) (x := (l, x)) h.out (fun y h => by
    simp only [I, SI, List.cons.injEq, DV.s.injEq, Dat.int.injEq, Dat.sl.injEq, true_and, and_true] at h
    exact Prod.ext (rowsI_inj h.1) h.2), rfl, rfl, fun _ _ => rfl⟩

noncomputable def TRO : Tbl := tbl [(27, garlandref03_Place_F), (26, garlandref03_Far_F)]
theorem TRO_ok : TblOK Try.prog TRO := tbl_ok (by
  simp only [List.mem_cons, List.not_mem_nil, or_false]
  rintro p (rfl | rfl)
  · exact garlandref03_Place
  · exact garlandref03_Far)
instance : Has TRO 27 garlandref03_Place_F := ⟨rfl⟩
instance : Has TRO 26 garlandref03_Far_F := ⟨rfl⟩

def L85 : CCode := (.loop [0, 1, 6, 7] (.seq (.seq (.reg (⟨(some 15), .mv (.t 7), none⟩ ::
    ⟨(some 16), .mv (.t 0), none⟩ ::
    ⟨(some 17), .len false (.t 16), none⟩ ::
    ⟨(some 18), .bin .lss (.t 15) (.t 17), none⟩ ::
    []))
  (.cond (.t 18) .skip (.exit 0)))
  (.seq (.block 1 (.seq (.reg (⟨(some 21), .mv (.t 1), none⟩ ::
    ⟨(some 22), .mv (.t 0), none⟩ ::
    ⟨(some 23), .mv (.t 7), none⟩ ::
    ⟨(some 24), .ixs 1 (.t 22) (.t 23), none⟩ ::
    ⟨(some 25), .ld (.t 24), none⟩ ::
    ⟨(some 26), .call (.c (.fn 26 [])) [(.t 21), (.t 25)], none⟩ ::
    ⟨(some 27), .mv (.t 1), none⟩ ::
    ⟨(some 28), .mv (.t 6), none⟩ ::
    ⟨(some 29), .call (.c (.fn 26 [])) [(.t 27), (.t 28)], none⟩ ::
    ⟨(some 30), .bin .lss (.t 26) (.t 29), none⟩ ::
    []))
  (.cond (.t 30) (.reg (⟨(some 31), .mv (.t 0), none⟩ ::
    ⟨(some 32), .mv (.t 7), none⟩ ::
    ⟨(some 33), .ixs 1 (.t 31) (.t 32), none⟩ ::
    ⟨(some 34), .ld (.t 33), none⟩ ::
    ⟨(some 35), .call (.c (.fn 27 [])) [(.t 34)], none⟩ ::
    ⟨(some 6), .mv (.t 35), none⟩ ::
    [])) .skip)))
  (.reg (⟨(some 19), .mv (.t 7), none⟩ ::
    ⟨(some 20), .bin .add (.t 19) (.c (.d (.int .i64 1))), none⟩ ::
    ⟨(some 7), .mv (.t 20), none⟩ ::
    [])))))
theorem L85_eq : L85 = .loop [0, 1, 6, 7] (.seq (.seq (.reg (⟨(some 15), .mv (.t 7), none⟩ ::
    ⟨(some 16), .mv (.t 0), none⟩ ::
    ⟨(some 17), .len false (.t 16), none⟩ ::
    ⟨(some 18), .bin .lss (.t 15) (.t 17), none⟩ ::
    []))
  (.cond (.t 18) .skip (.exit 0)))
  (.seq (.block 1 (.seq (.reg (⟨(some 21), .mv (.t 1), none⟩ ::
    ⟨(some 22), .mv (.t 0), none⟩ ::
    ⟨(some 23), .mv (.t 7), none⟩ ::
    ⟨(some 24), .ixs 1 (.t 22) (.t 23), none⟩ ::
    ⟨(some 25), .ld (.t 24), none⟩ ::
    ⟨(some 26), .call (.c (.fn 26 [])) [(.t 21), (.t 25)], none⟩ ::
    ⟨(some 27), .mv (.t 1), none⟩ ::
    ⟨(some 28), .mv (.t 6), none⟩ ::
    ⟨(some 29), .call (.c (.fn 26 [])) [(.t 27), (.t 28)], none⟩ ::
    ⟨(some 30), .bin .lss (.t 26) (.t 29), none⟩ ::
    []))
  (.cond (.t 30) (.reg (⟨(some 31), .mv (.t 0), none⟩ ::
    ⟨(some 32), .mv (.t 7), none⟩ ::
    ⟨(some 33), .ixs 1 (.t 31) (.t 32), none⟩ ::
    ⟨(some 34), .ld (.t 33), none⟩ ::
    ⟨(some 35), .call (.c (.fn 27 [])) [(.t 34)], none⟩ ::
    ⟨(some 6), .mv (.t 35), none⟩ ::
    [])) .skip)))
  (.reg (⟨(some 19), .mv (.t 7), none⟩ ::
    ⟨(some 20), .bin .add (.t 19) (.c (.d (.int .i64 1))), none⟩ ::
    ⟨(some 7), .mv (.t 20), none⟩ ::
    [])))) := rfl
theorem owner85_loop (l : List Int) (key : Int) (hl : l.length < 9223372036854775808) : ∀ (k i : Nat), l.length - i = k → i ≤ l.length → ∀ (a : Int) (env : Env), look env 0 = some (vsI l) → look env 1 = some (.d (.int .i64 key)) → look env 6 = some (.d (.int .i64 a)) → look env 7 = some (.d (.int .i64 i)) →
    ∀ (Q : Ex → Env → St → Prop), (∀ env', look env' 6 = some (.d (.int .i64 (ownF key a (l.drop i)))) → Q (.ex 0) env' ⟨[], []⟩) → W TRO ⟨[], 0⟩ L85 env ⟨[], []⟩ Q := by
  intro k
  induction k with
  | zero =>
    intro i hk hi a env h0 h1 h6 h7 Q hQ
    have hlt : ¬ i < l.length := by omega
    rw [L85_eq, W_loop]
    simp [-getElem?_pos, h0, h1, h6, h7, stepK.lenA, rowsI_length, hlt]
    refine hQ _ ?_
    rw [List.drop_eq_nil_of_le (by omega)]
    simp [-getElem?_pos, h6, ownF]
  | succ k ih =>
    intro i hk hi a env h0 h1 h6 h7 Q hQ
    have hlt : i < l.length := by omega
    obtain ⟨n, hn⟩ : ∃ n, l[i]? = some n := ⟨_, List.getElem?_eq_getElem hlt⟩
    have hd : l.drop i = n :: l.drop (i + 1) := by rw [List.drop_eq_getElem_cons hlt]; congr 1; exact (List.getElem?_eq_some_iff.1 hn).2
    have hw := wrapN1 i (by omega)
    rw [L85_eq, W_loop]
    simp [-getElem?_pos, h0, h1, h6, h7, stepK.lenA, rowsI_length, rowsI_get, hn, hlt, -Int.natCast_add]
    all_goals (try (first | refine WLV_splitN (fun hs => ?_) (fun hs => ?_) | refine WLC_splitN (fun hs => ?_) (fun hs => ?_) | refine WLB_splitN (fun hs => ?_) (fun hs => ?_) | refine WLPV_splitN (fun hs => ?_) (fun hs => ?_) | refine WLPC_splitN (fun hs => ?_) (fun hs => ?_) | refine WLPV_split (fun hs => ?_) (fun hs => ?_) | refine WLPC_split (fun hs => ?_) (fun hs => ?_) | refine WLV_split (fun hs => ?_) (fun hs => ?_) | refine WLC_split (fun hs => ?_) (fun hs => ?_) | refine WLB_split (fun hs => ?_) (fun hs => ?_)))
    all_goals (try (have hs' := hs; simp at hs'))
    all_goals (try simp [*, -getElem?_pos, h0, h1, h6, h7, rowsI_get, hn, -Int.natCast_add])
    all_goals (refine (WL_of (c := L85)).1 (ih (i + 1) (by omega) (by omega) (bif decide (far key n < far key a) then place n else a) _ ?_ ?_ ?_ ?_ Q (fun env' h => hQ env' ?_)))
    all_goals first
      | (simp [*, -getElem?_pos, h0, h1, h6, h7, hw, -Int.natCast_add]; done)
      | (rw [h, hd]; simp [ownF, *])
theorem ownF_first (key x : Int) (l : List Int) : ownF key (place x) (x :: l) = ownF key (place x) l := by
  have : far key (place x) = far key x := by unfold far place; omega
  simp [ownF, this]
theorem garlandref03_Owner : Pure Try.prog 85 owner_F := by
  refine con TRO_ok rfl rfl fun ⟨l, key⟩ hl => ⟨rfl, ?_⟩
  cases l with
  | nil => simp [cf85, -getElem?_pos, SI, stepK.lenA, rowsI_length, owner, rowsI, toDVs]
  | cons x l =>
    have e : ((l.length : Int) + 1 == 0) = false := by rw [beq_eq_false_iff_ne]; omega
    simp [cf85, -getElem?_pos, SI, stepK.lenA, rowsI_length, rowsI_get, e]
    rw [WL_code]
    refine owner85_loop (x :: l) key hl (x :: l).length 0 (by omega) (by omega) (place x) _ ?_ ?_ ?_ ?_ _ (fun env' h => ?_)
    · simp [-getElem?_pos]
    · simp [-getElem?_pos]
    · simp [-getElem?_pos]
    · simp [-getElem?_pos]
    · simp only [List.drop_zero, ownF_first] at h
      simp [-getElem?_pos, h, toDVs, owner]
noncomputable abbrev garlandref03_Owner_F := owner_F

theorem gc_nil {N M : Nat} {vs : List AV} : gc N M vs [] = [] := by simp [gc]
noncomputable def TAO : Tbl := tbl [(66, arc_Place_F), (47, arc_Far_F)]
theorem TAO_ok : TblOK Try.prog TAO := tbl_ok (by
  simp only [List.mem_cons, List.not_mem_nil, or_false]
  rintro p (rfl | rfl)
  · exact arc_Place
  · exact arc_Far)
instance : Has TAO 66 arc_Place_F := ⟨rfl⟩
instance : Has TAO 47 arc_Far_F := ⟨rfl⟩

def W91 : CCode := (.seq (.seq (.reg (⟨(some 6), .mv (.t 0), none⟩ ::
    ⟨(some 7), .len false (.t 6), none⟩ ::
    ⟨(some 8), .bin .eql (.t 7) (.c (.d (.int .i64 0))), none⟩ ::
    []))
  (.cond (.t 8) (.seq (.reg (⟨(some 4), .mv (.c (.d (.int .i64 0))), none⟩ ::
    ⟨(some 5), .mv (.c (.d (.bool false))), none⟩ ::
    []))
  .ret) .skip))
  (.seq (.reg (⟨(some 9), .mv (.t 0), none⟩ ::
    ⟨(some 10), .ixs 1 (.t 9) (.c (.d (.int .i64 0))), none⟩ ::
    ⟨(some 11), .ld (.t 10), none⟩ ::
    ⟨(some 12), .call (.c (.fn 66 [])) [(.t 11)], none⟩ ::
    ⟨(some 4), .mv (.t 12), none⟩ ::
    []))
  (.seq (.label 0)
  (.seq (.seq (.reg (⟨(some 13), .mv (.t 0), none⟩ ::
    ⟨(some 14), .sls 1 (.t 13) (some (.c (.d (.int .i64 1)))) none, none⟩ ::
    ⟨(some 0), .mv (.t 14), none⟩ ::
    []))
  (.seq (.reg (⟨(some 15), .mv (.t 0), none⟩ ::
    ⟨(some 16), .len false (.t 15), none⟩ ::
    ⟨(some 17), .bin .gtr (.t 16) (.c (.d (.int .i64 0))), none⟩ ::
    []))
  (.cond (.t 17) (.seq (.seq (.reg (⟨(some 18), .mv (.t 1), none⟩ ::
    ⟨(some 19), .mv (.t 0), none⟩ ::
    ⟨(some 20), .ixs 1 (.t 19) (.c (.d (.int .i64 0))), none⟩ ::
    ⟨(some 21), .ld (.t 20), none⟩ ::
    ⟨(some 22), .call (.c (.fn 47 [])) [(.t 18), (.t 21)], none⟩ ::
    ⟨(some 23), .mv (.t 1), none⟩ ::
    ⟨(some 24), .mv (.t 4), none⟩ ::
    ⟨(some 25), .call (.c (.fn 47 [])) [(.t 23), (.t 24)], none⟩ ::
    ⟨(some 26), .bin .lss (.t 22) (.t 25), none⟩ ::
    []))
  (.cond (.t 26) (.reg (⟨(some 27), .mv (.t 0), none⟩ ::
    ⟨(some 28), .ixs 1 (.t 27) (.c (.d (.int .i64 0))), none⟩ ::
    ⟨(some 29), .ld (.t 28), none⟩ ::
    ⟨(some 30), .call (.c (.fn 66 [])) [(.t 29)], none⟩ ::
    ⟨(some 4), .mv (.t 30), none⟩ ::
    [])) .skip))
  (.goto 0)) .skip)))
  (.seq (.reg (⟨(some 31), .mv (.t 4), none⟩ ::
    ⟨(some 4), .mv (.t 31), none⟩ ::
    ⟨(some 5), .mv (.c (.d (.bool true))), none⟩ ::
    []))
  .ret)))))
def R91 : CCode := (.seq .skip (.seq (.seq (.reg (⟨(some 13), .mv (.t 0), none⟩ ::
    ⟨(some 14), .sls 1 (.t 13) (some (.c (.d (.int .i64 1)))) none, none⟩ ::
    ⟨(some 0), .mv (.t 14), none⟩ ::
    []))
  (.seq (.reg (⟨(some 15), .mv (.t 0), none⟩ ::
    ⟨(some 16), .len false (.t 15), none⟩ ::
    ⟨(some 17), .bin .gtr (.t 16) (.c (.d (.int .i64 0))), none⟩ ::
    []))
  (.cond (.t 17) (.seq (.seq (.reg (⟨(some 18), .mv (.t 1), none⟩ ::
    ⟨(some 19), .mv (.t 0), none⟩ ::
    ⟨(some 20), .ixs 1 (.t 19) (.c (.d (.int .i64 0))), none⟩ ::
    ⟨(some 21), .ld (.t 20), none⟩ ::
    ⟨(some 22), .call (.c (.fn 47 [])) [(.t 18), (.t 21)], none⟩ ::
    ⟨(some 23), .mv (.t 1), none⟩ ::
    ⟨(some 24), .mv (.t 4), none⟩ ::
    ⟨(some 25), .call (.c (.fn 47 [])) [(.t 23), (.t 24)], none⟩ ::
    ⟨(some 26), .bin .lss (.t 22) (.t 25), none⟩ ::
    []))
  (.cond (.t 26) (.reg (⟨(some 27), .mv (.t 0), none⟩ ::
    ⟨(some 28), .ixs 1 (.t 27) (.c (.d (.int .i64 0))), none⟩ ::
    ⟨(some 29), .ld (.t 28), none⟩ ::
    ⟨(some 30), .call (.c (.fn 66 [])) [(.t 29)], none⟩ ::
    ⟨(some 4), .mv (.t 30), none⟩ ::
    [])) .skip))
  (.goto 0)) .skip)))
  (.seq (.reg (⟨(some 31), .mv (.t 4), none⟩ ::
    ⟨(some 4), .mv (.t 31), none⟩ ::
    ⟨(some 5), .mv (.c (.d (.bool true))), none⟩ ::
    []))
  .ret)))
theorem owner91_loop (key : Int) : ∀ (l : List Int) (m a : Int) (env : Env), l.length < 9223372036854775807 → look env 0 = some (vsI (m :: l)) → look env 1 = some (.d (.int .i64 key)) → look env 4 = some (.d (.int .i64 a)) → ∀ (Q : Ex → Env → St → Prop),
    (∀ env', look env' 4 = some (.d (.int .i64 (ownF key a l))) → look env' 5 = some (.d (.bool true)) → Q .rt env' ⟨[], []⟩) → WL TAO ⟨[], 0⟩ [.code R91] env ⟨[], []⟩ (onGt TAO ⟨[], 0⟩ [0, 1, 4] W91 ⟨[], []⟩ Q)
  | [], m, a, env, hl, h0, h1, h4, Q, hQ => by
    simp [R91, -getElem?_pos, h0, h1, h4, bound?, stepK.lenA, rowsI_length, sliceA, rowsI_ok]
    refine hQ _ ?_ ?_ <;> simp [-getElem?_pos, ownF]
  | n :: l, m, a, env, hl, h0, h1, h4, Q, hQ => by
    have e : (0 : Int) < (l.length : Int) + 1 := by omega
    have e2 : ((rowsI (m :: n :: l)).take ((l.length : Int) + 1 + 1).toNat).drop 1 = rowsI (n :: l) := by
      have : ((l.length : Int) + 1 + 1).toNat = l.length + 2 := by omega
      rw [this, List.take_of_length_le (by simp [rowsI])]; rfl
    have e3 : (1 : Int) ≤ (l.length : Int) + 1 + 1 := by omega
    have e4 : ((l.length : Int) + 1 + 1).toNat ≤ l.length + 1 + 1 := by omega
    simp [R91, -getElem?_pos, h0, h1, h4, bound?, stepK.lenA, rowsI_length, sliceA, rowsI_ok, e, e2, e3, e4, rowsI_get]
    all_goals (try (first | refine WLV_splitN (fun hs => ?_) (fun hs => ?_) | refine WLC_splitN (fun hs => ?_) (fun hs => ?_) | refine WLB_splitN (fun hs => ?_) (fun hs => ?_) | refine WLPV_splitN (fun hs => ?_) (fun hs => ?_) | refine WLPC_splitN (fun hs => ?_) (fun hs => ?_) | refine WLPV_split (fun hs => ?_) (fun hs => ?_) | refine WLPC_split (fun hs => ?_) (fun hs => ?_) | refine WLV_split (fun hs => ?_) (fun hs => ?_) | refine WLC_split (fun hs => ?_) (fun hs => ?_) | refine WLB_split (fun hs => ?_) (fun hs => ?_)))
    all_goals (try (have hs' := hs; simp at hs'))
    all_goals (try simp [*, -getElem?_pos, h0, h1, h4, rowsI_get])
    all_goals (
      refine onGt_go (rest := R91) rfl ?_
      simp only [gc_nil]
      refine owner91_loop key l n (bif decide (far key n < far key a) then place n else a) _ (by simp at hl; omega) ?_ ?_ ?_ Q (fun env' h5 h6 => hQ env' (by rw [h5]; rfl) h6) <;> simp [*, -getElem?_pos, h0, h1, h4])
theorem arc_Owner : Pure Try.prog 91 owner_F := by
  refine con TAO_ok rfl rfl fun ⟨l, key⟩ hl => ⟨rfl, ?_⟩
  cases l with
  | nil => simp [cf91, -getElem?_pos, SI, stepK.lenA, rowsI_length, owner, rowsI, toDVs]
  | cons x l =>
    have e : ((l.length : Int) + 1 == 0) = false := by rw [beq_eq_false_iff_ne]; omega
    simp [cf91, -getElem?_pos, SI, stepK.lenA, rowsI_length, rowsI_get, e, -WL_label]
    rw [WL_label]
    refine WL_skip.1 (WL_seq.1 (owner91_loop key l x (place x) _ (by simp at hl; omega) ?_ ?_ ?_ _ (fun env' h4 h5 => ?_)))
    · simp [-getElem?_pos]
    · simp [-getElem?_pos]
    · simp [-getElem?_pos]
    · simp [-getElem?_pos, h4, h5, toDVs, owner]
noncomputable abbrev arc_Owner_F := owner_F

/-! ### a view's anchor, its first one -/
def VW.anchor (v : VW) : Int := bif v.right then (owner v.base (v.id + 1)).1 else -1
noncomputable def anchor_F := orcOf (fun v : VW => [V v]) (fun _ => True) (fun v => [I v.anchor])
instance (v : VW) : Tells anchor_F [.agg v.cs] (.d (.int .i64 v.anchor)) :=
  ⟨[V v], [I v.anchor], fun h => by simp [toDVs, toDV, cs_dats, V], orcOf_eq (enc := fun v : VW => [V v]) (x := v) trivial (fun y h => by
    simp only [V, List.cons.injEq, DV.g.injEq, and_true] at h
    exact VW.inj h), rfl, rfl, fun _ _ => by simp [AV.lows, cs_lows]⟩
theorem right_id {v : VW} (h : v.right = true) : 0 ≤ v.id ∧ v.id < 65536 := by
  unfold VW.right isPlace at h
  simp only [Bool.and_eq_true, decide_eq_true_eq] at h
  exact h.1.1.1.1.1.1
theorem wrap_id {v : VW} (h : v.right = true) : IntKind.i64.wrap (v.id + 1) = v.id + 1 := by
  have := right_id h
  rw [wrap64]; split <;> omega
noncomputable def TA1 : Tbl := tbl [(52, view_Right_F), (91, arc_Owner_F)]
theorem TA1_ok : TblOK Try.prog TA1 := tbl_ok (by
  simp only [List.mem_cons, List.not_mem_nil, or_false]
  rintro p (rfl | rfl)
  · exact view_Right
  · exact arc_Owner)
instance : Has TA1 52 view_Right_F := ⟨rfl⟩
instance : Has TA1 91 arc_Owner_F := ⟨rfl⟩

theorem view_Anchor : Pure Try.prog 70 anchor_F := by
  refine con TA1_ok rfl rfl fun v _ => ⟨rfl, ?_⟩
  cases hr : v.right with
  | false => simp [cf70, V_av, -getElem?_pos, cs_length, cs_take, cs_all, cs_lows, VW.anchor, hr]
  | true =>
    have hw := wrap_id hr
    simp [cf70, V_av, -getElem?_pos, cs_0, cs_1, cs_length, cs_take, cs_all, cs_lows, VW.anchor, hr, hw]
noncomputable abbrev view_Anchor_F := anchor_F
noncomputable def TA2 : Tbl := tbl [(24, garlandref13_Right_F), (85, garlandref03_Owner_F)]
theorem TA2_ok : TblOK Try.prog TA2 := tbl_ok (by
  simp only [List.mem_cons, List.not_mem_nil, or_false]
  rintro p (rfl | rfl)
  · exact garlandref13_Right
  · exact garlandref03_Owner)
instance : Has TA2 24 garlandref13_Right_F := ⟨rfl⟩
instance : Has TA2 85 garlandref03_Owner_F := ⟨rfl⟩

theorem garlandref13_Anchor : Pure Try.prog 61 anchor_F := by
  refine con TA2_ok rfl rfl fun v _ => ⟨rfl, ?_⟩
  cases hr : v.right with
  | false => simp [cf61, V_av, -getElem?_pos, cs_length, cs_take, cs_all, cs_lows, VW.anchor, hr]
  | true =>
    have hw := wrap_id hr
    simp [cf61, V_av, -getElem?_pos, cs_0, cs_1, cs_length, cs_take, cs_all, cs_lows, VW.anchor, hr, hw]
noncomputable abbrev garlandref13_Anchor_F := anchor_F

def VW.first (v : VW) : Int := match v.lst with
  | [] => v.anchor
  | x :: _ => bif v.right then x else v.anchor
noncomputable def first_F := orcOf (fun v : VW => [V v]) (fun _ => True) (fun v => [I v.first])
instance (v : VW) : Tells first_F [.agg v.cs] (.d (.int .i64 v.first)) :=
  ⟨[V v], [I v.first], fun h => by simp [toDVs, toDV, cs_dats, V], orcOf_eq (enc := fun v : VW => [V v]) (x := v) trivial (fun y h => by
    simp only [V, List.cons.injEq, DV.g.injEq, and_true] at h
    exact VW.inj h), rfl, rfl, fun _ _ => by simp [AV.lows, cs_lows]⟩
noncomputable def TA3 : Tbl := tbl [(52, view_Right_F), (70, view_Anchor_F)]
theorem TA3_ok : TblOK Try.prog TA3 := tbl_ok (by
  simp only [List.mem_cons, List.not_mem_nil, or_false]
  rintro p (rfl | rfl)
  · exact view_Right
  · exact view_Anchor)
instance : Has TA3 52 view_Right_F := ⟨rfl⟩
instance : Has TA3 70 view_Anchor_F := ⟨rfl⟩

theorem view_First : Pure Try.prog 45 first_F := by
  refine con TA3_ok rfl rfl fun v _ => ⟨rfl, ?_⟩
  cases hl : v.lst with
  | nil =>
    cases hr : v.right with
    | false => simp [cf45, V_av, -getElem?_pos, cs_2, cs_length, cs_take, cs_all, cs_lows, VW.first, hr, hl]
    | true => simp [cf45, V_av, -getElem?_pos, cs_2, cs_length, cs_take, cs_all, cs_lows, VW.first, hr, hl, stepK.lenA, rowsI_length]
  | cons x l =>
    have e : ((l.length : Int) + 1 == 0) = false := by rw [beq_eq_false_iff_ne]; omega
    cases hr : v.right with
    | false => simp [cf45, V_av, -getElem?_pos, cs_2, cs_length, cs_take, cs_all, cs_lows, VW.first, hr, hl, rowsI_length]
    | true => simp [cf45, V_av, -getElem?_pos, cs_2, cs_length, cs_take, cs_all, cs_lows, VW.first, hr, hl, rowsI_length, rowsI_get, stepK.lenA, e]
noncomputable abbrev view_First_F := first_F
noncomputable def TA4 : Tbl := tbl [(24, garlandref13_Right_F), (61, garlandref13_Anchor_F)]
theorem TA4_ok : TblOK Try.prog TA4 := tbl_ok (by
  simp only [List.mem_cons, List.not_mem_nil, or_false]
  rintro p (rfl | rfl)
  · exact garlandref13_Right
  · exact garlandref13_Anchor)
instance : Has TA4 24 garlandref13_Right_F := ⟨rfl⟩
instance : Has TA4 61 garlandref13_Anchor_F := ⟨rfl⟩

theorem garlandref13_First : Pure Try.prog 25 first_F := by
  refine con TA4_ok rfl rfl fun v _ => ⟨rfl, ?_⟩
  cases hl : v.lst with
  | nil =>
    cases hr : v.right with
    | false => simp [cf25, V_av, -getElem?_pos, cs_2, cs_length, cs_take, cs_all, cs_lows, VW.first, hr, hl]
    | true => simp [cf25, V_av, -getElem?_pos, cs_2, cs_length, cs_take, cs_all, cs_lows, VW.first, hr, hl, stepK.lenA, rowsI_length]
  | cons x l =>
    have e : decide ((0 : Int) < (l.length : Int) + 1) = true := by rw [decide_eq_true_eq]; omega
    cases hr : v.right with
    | false => simp [cf25, V_av, -getElem?_pos, cs_2, cs_length, cs_take, cs_all, cs_lows, VW.first, hr, hl, rowsI_length]
    | true => simp [cf25, V_av, -getElem?_pos, cs_2, cs_length, cs_take, cs_all, cs_lows, VW.first, hr, hl, rowsI_length, rowsI_get, stepK.lenA, e]
noncomputable abbrev garlandref13_First_F := first_F
end Go.Proofs.Ytbeocehhclfbiaa.Lite
namespace Go.Proofs.Ytbeocehhclfbiaa.Lite
open Go
attribute [local simp] WL_of WL_nil WL_blk WL_skip WL_label WL_exit WL_goto WL_seq WL_block WL_cond WL_reg WL_ret WJ_nil WJ_ex WJ_gt WJ_rt WJ_exb WJ_gtb WJ_rtb WLO_nil WLO_call WO_mv WO_pick WO_new WO_box WO_ld WO_ldn WO_st WO_off WO_ixa WO_ixs WO_fld WO_fldn WO_ixv WO_ixvn WO_ixb WO_bin WO_eqb WO_isn WO_eqs WO_not WO_conv WO_mkf WO_bld WO_bls WO_sla WO_sls WO_sl0 WO_len WO_app WO_mnx WO_ext WO_nilc wants_none wants_some wantv_b wantv_t WLV_true WLV_false WLC_false WLB_true WLB_false evX_t evX_c evXs_nil evXs_cons look_put look_putN look_cons look_arg0 look_arg stepK binOpA intOp strOp evRes oneOf outs gc toDV AV.dat? I Bo av_s List.map List.append_nil getO putO AV.cellsOf bne WL_dreg WLP_nil WLP_call WP_mv WP_pick WP_new WP_box WP_ld WP_ldn WP_off WP_ixa WP_ixs WP_fld WP_fldn WP_ixv WP_ixvn WP_ixb WP_bin WP_eqb WP_isn WP_eqs WP_not WP_conv WP_mkf WP_bld WP_bls WP_sla WP_sls WP_sl0 WP_len WP_app WP_mnx WP_ext WP_nilc WLPV_true WLPV_false WLPC_false WLC_tells WLPC_tells padH onNm onEx List.getElem?_cons_zero List.getElem?_cons_succ List.getElem?_nil restrict AV.lows lay AV.isCell lowObj AObj.lows WJ_nm AV.lows.go WL_scope onGt_rt onGt_nm onGt_ex WL_sreg WP_st preSt eraseB List.set_cons_zero List.set_cons_succ

def left (a k : Int) : Int := bif decide (0 < far a k) then far a k else 65536
noncomputable def left_F := orcOf (fun p : Int × Int => [I p.1, I p.2]) (fun _ => True) (fun p => [I (left p.1 p.2)])
instance (a b : Int) : Tells left_F [.d (.int .i64 a), .d (.int .i64 b)] (.d (.int .i64 (left a b))) :=
  ⟨_, [I (left a b)], fun _ => rfl, orcOf_eq (enc := fun p : Int × Int => [I p.1, I p.2]) (x := (a, b)) trivial (fun y h => by simpa [I, Prod.ext_iff] using h), rfl, rfl, fun _ _ => rfl⟩
noncomputable def TL1 : Tbl := tbl [(47, arc_Far_F)]
theorem TL1_ok : TblOK Try.prog TL1 := tbl_ok (by
  simp only [List.mem_cons, List.not_mem_nil, or_false]
  rintro p (rfl)
  · exact arc_Far)
instance : Has TL1 47 arc_Far_F := ⟨rfl⟩

theorem hop_left : Pure Try.prog 53 left_F := by
  refine con TL1_ok rfl rfl fun ⟨a, k⟩ _ => ⟨rfl, ?_⟩
  simp [cf53, -getElem?_pos]
  all_goals (try (first | refine WLV_splitN (fun hs => ?_) (fun hs => ?_) | refine WLC_splitN (fun hs => ?_) (fun hs => ?_) | refine WLB_splitN (fun hs => ?_) (fun hs => ?_) | refine WLPV_splitN (fun hs => ?_) (fun hs => ?_) | refine WLPC_splitN (fun hs => ?_) (fun hs => ?_) | refine WLPV_split (fun hs => ?_) (fun hs => ?_) | refine WLPC_split (fun hs => ?_) (fun hs => ?_) | refine WLV_split (fun hs => ?_) (fun hs => ?_) | refine WLC_split (fun hs => ?_) (fun hs => ?_) | refine WLB_split (fun hs => ?_) (fun hs => ?_)))
  all_goals (try (have hs' := hs; simp at hs'))
  all_goals (try simp [*, -getElem?_pos])
  all_goals simp [left, *]
noncomputable abbrev hop_left_F := left_F
noncomputable def TL2 : Tbl := tbl [(26, garlandref03_Far_F)]
theorem TL2_ok : TblOK Try.prog TL2 := tbl_ok (by
  simp only [List.mem_cons, List.not_mem_nil, or_false]
  rintro p (rfl)
  · exact garlandref03_Far)
instance : Has TL2 26 garlandref03_Far_F := ⟨rfl⟩

theorem far_zero (a k : Int) (h : (far a k == 0) = false) : decide (0 < far a k) = true := by
  rw [beq_eq_false_iff_ne] at h; rw [decide_eq_true_eq]; unfold far at *; omega
theorem garlandref16_left : Pure Try.prog 54 left_F := by
  refine con TL2_ok rfl rfl fun ⟨a, k⟩ _ => ⟨rfl, ?_⟩
  simp [cf54, -getElem?_pos]
  all_goals (try (first | refine WLV_splitN (fun hs => ?_) (fun hs => ?_) | refine WLC_splitN (fun hs => ?_) (fun hs => ?_) | refine WLB_splitN (fun hs => ?_) (fun hs => ?_) | refine WLPV_splitN (fun hs => ?_) (fun hs => ?_) | refine WLPC_splitN (fun hs => ?_) (fun hs => ?_) | refine WLPV_split (fun hs => ?_) (fun hs => ?_) | refine WLPC_split (fun hs => ?_) (fun hs => ?_) | refine WLV_split (fun hs => ?_) (fun hs => ?_) | refine WLC_split (fun hs => ?_) (fun hs => ?_) | refine WLB_split (fun hs => ?_) (fun hs => ?_)))
  all_goals (try (have hs' := hs; simp at hs'))
  all_goals (try simp [*, -getElem?_pos])
  all_goals first
    | (simp [left, *]; done)
    | (rename_i h1 h2; simp [left, far_zero a k h1])
    | (simp [left, far_zero a k (by assumption)])
noncomputable abbrev garlandref16_left_F := left_F
def closer (k a b : Int) : Bool := decide (left b k < left a k)
noncomputable def closer_F := orcOf (fun p : Int × Int × Int => [I p.1, I p.2.1, I p.2.2]) (fun _ => True) (fun p => [Bo (closer p.1 p.2.1 p.2.2)])
instance (a x b : Int) : Tells closer_F [.d (.int .i64 a), .d (.int .i64 x), .d (.int .i64 b)] (.d (.bool (closer a x b))) :=
  ⟨_, [Bo (closer a x b)], fun _ => rfl, orcOf_eq (enc := fun p : Int × Int × Int => [I p.1, I p.2.1, I p.2.2]) (x := (a, x, b)) trivial (fun y h => by simpa [I, Prod.ext_iff] using h), rfl, rfl, fun _ _ => rfl⟩
noncomputable def TL3 : Tbl := tbl [(53, hop_left_F)]
theorem TL3_ok : TblOK Try.prog TL3 := tbl_ok (by
  simp only [List.mem_cons, List.not_mem_nil, or_false]
  rintro p (rfl)
  · exact hop_left)
instance : Has TL3 53 hop_left_F := ⟨rfl⟩

theorem hop_Closer : Pure Try.prog 22 closer_F := by
  refine con TL3_ok rfl rfl fun ⟨k, a, b⟩ _ => ⟨rfl, ?_⟩
  simp [cf22, -getElem?_pos, closer]
noncomputable abbrev hop_Closer_F := closer_F
noncomputable def TL4 : Tbl := tbl [(54, garlandref16_left_F)]
theorem TL4_ok : TblOK Try.prog TL4 := tbl_ok (by
  simp only [List.mem_cons, List.not_mem_nil, or_false]
  rintro p (rfl)
  · exact garlandref16_left)
instance : Has TL4 54 garlandref16_left_F := ⟨rfl⟩

theorem garlandref16_Closer : Pure Try.prog 23 closer_F := by
  refine con TL4_ok rfl rfl fun ⟨k, a, b⟩ _ => ⟨rfl, ?_⟩
  simp [cf23, -getElem?_pos, closer]
noncomputable abbrev garlandref16_Closer_F := closer_F
def VW.left (v : VW) (k : Int) : Int := bif v.right then Lite.left v.id k else 0
noncomputable def vleft_F := orcOf (fun p : VW × Int => [V p.1, I p.2]) (fun _ => True) (fun p => [I (p.1.left p.2)])
instance (v : VW) (n : Int) : Tells vleft_F [.agg v.cs, .d (.int .i64 n)] (.d (.int .i64 (v.left n))) :=
  ⟨[V v, I n], [I (v.left n)], fun h => by simp [toDVs, toDV, cs_dats, AV.dat?, V, I], orcOf_eq (enc := fun p : VW × Int => [V p.1, I p.2]) (x := (v, n)) trivial (fun y h => by
    simp only [V, I, List.cons.injEq, DV.g.injEq, DV.s.injEq, Dat.int.injEq, true_and, and_true] at h
    exact Prod.ext (VW.inj h.1) h.2), rfl, rfl, fun _ _ => by simp [AV.lows, cs_lows]⟩
noncomputable def TL5 : Tbl := tbl [(52, view_Right_F), (53, hop_left_F)]
theorem TL5_ok : TblOK Try.prog TL5 := tbl_ok (by
  simp only [List.mem_cons, List.not_mem_nil, or_false]
  rintro p (rfl | rfl)
  · exact view_Right
  · exact hop_left)
instance : Has TL5 52 view_Right_F := ⟨rfl⟩
instance : Has TL5 53 hop_left_F := ⟨rfl⟩

theorem hop_Left : Pure Try.prog 17 vleft_F := by
  refine con TL5_ok rfl rfl fun ⟨v, k⟩ _ => ⟨rfl, ?_⟩
  cases hr : v.right <;> simp [cf17, V_av, -getElem?_pos, cs_0, cs_length, cs_take, cs_all, cs_lows, VW.left, hr]
noncomputable abbrev hop_Left_F := vleft_F
noncomputable def TL6 : Tbl := tbl [(24, garlandref13_Right_F), (54, garlandref16_left_F)]
theorem TL6_ok : TblOK Try.prog TL6 := tbl_ok (by
  simp only [List.mem_cons, List.not_mem_nil, or_false]
  rintro p (rfl | rfl)
  · exact garlandref13_Right
  · exact garlandref16_left)
instance : Has TL6 24 garlandref13_Right_F := ⟨rfl⟩
instance : Has TL6 54 garlandref16_left_F := ⟨rfl⟩

theorem garlandref16_Left : Pure Try.prog 18 vleft_F := by
  refine con TL6_ok rfl rfl fun ⟨v, k⟩ _ => ⟨rfl, ?_⟩
  cases hr : v.right <;> simp [cf18, V_av, -getElem?_pos, cs_0, cs_length, cs_take, cs_all, cs_lows, VW.left, hr]
noncomputable abbrev garlandref16_Left_F := vleft_F
end Go.Proofs.Ytbeocehhclfbiaa.Lite
namespace Go.Proofs.Ytbeocehhclfbiaa.Lite
open Go
attribute [local simp] WL_of WL_nil WL_blk WL_skip WL_label WL_exit WL_goto WL_seq WL_block WL_cond WL_reg WL_ret WJ_nil WJ_ex WJ_gt WJ_rt WJ_exb WJ_gtb WJ_rtb WLO_nil WLO_call WO_mv WO_pick WO_new WO_box WO_ld WO_ldn WO_st WO_off WO_ixa WO_ixs WO_fld WO_fldn WO_ixv WO_ixvn WO_ixb WO_bin WO_eqb WO_isn WO_eqs WO_not WO_conv WO_mkf WO_bld WO_bls WO_sla WO_sls WO_sl0 WO_len WO_app WO_mnx WO_ext WO_nilc wants_none wants_some wantv_b wantv_t WLV_true WLV_false WLC_false WLB_true WLB_false evX_t evX_c evXs_nil evXs_cons look_put look_putN look_cons look_arg0 look_arg stepK binOpA intOp strOp evRes oneOf outs gc toDV AV.dat? I Bo av_s List.map List.append_nil getO putO AV.cellsOf bne WL_dreg WLP_nil WLP_call WP_mv WP_pick WP_new WP_box WP_ld WP_ldn WP_off WP_ixa WP_ixs WP_fld WP_fldn WP_ixv WP_ixvn WP_ixb WP_bin WP_eqb WP_isn WP_eqs WP_not WP_conv WP_mkf WP_bld WP_bls WP_sla WP_sls WP_sl0 WP_len WP_app WP_mnx WP_ext WP_nilc WLPV_true WLPV_false WLPC_false WLC_tells WLPC_tells padH onNm onEx List.getElem?_cons_zero List.getElem?_cons_succ List.getElem?_nil restrict AV.lows lay AV.isCell lowObj AObj.lows WJ_nm AV.lows.go WL_scope onGt_rt onGt_nm onGt_ex WL_sreg WP_st preSt eraseB List.set_cons_zero List.set_cons_succ

def nextF (id k : Int) : Int → List Int → Int
  | p, [] => p
  | p, n :: l => nextF id k (bif decide (0 ≤ n) && inB id n k && decide (far id p < far id n) then n else p) l
def VW.next (v : VW) (k : Int) (slow : Bool) : Int × Bool :=
  bif decide (v.first < 0) then (-1, false) else bif upToB v.id k v.first then (v.first, true) else bif slow then (v.first, false) else (nextF v.id k v.first (v.lst ++ v.fin), false)
noncomputable def next_F := orcOf (fun p : VW × Int × Bool => [V p.1, I p.2.1, Bo p.2.2]) (fun _ => True) (fun p => [I (p.1.next p.2.1 p.2.2).1, Bo (p.1.next p.2.1 p.2.2).2])
instance (v : VW) (n : Int) (s : Bool) : Tells next_F [.agg v.cs, .d (.int .i64 n), .d (.bool s)] (.tup [.d (.int .i64 (v.next n s).1), .d (.bool (v.next n s).2)]) :=
  ⟨[V v, I n, Bo s], [I (v.next n s).1, Bo (v.next n s).2], fun h => by simp [toDVs, toDV, cs_dats, AV.dat?, V, I, Bo], orcOf_eq (enc := fun p : VW × Int × Bool => [V p.1, I p.2.1, Bo p.2.2]) (x := (v, n, s)) trivial (fun y h => by
    simp only [V, I, Bo, List.cons.injEq, DV.g.injEq, DV.s.injEq, Dat.int.injEq, Dat.bool.injEq, true_and, and_true] at h
    exact Prod.ext (VW.inj h.1) (Prod.ext h.2.1 h.2.2)), rfl, rfl, fun _ _ => by simp [AV.lows, cs_lows]⟩

theorem chunk_ints : ∀ (l : List Int) (n : Nat), n = l.length → chunk 1 n (l.map (.int .i64)) = rowsI l
  | [], n, h => by subst h; rfl
  | x :: l, n, h => by subst h; simp [chunk, rowsI, chunk_ints l l.length rfl]

noncomputable def TN1 : Tbl := tbl [(25, garlandref13_First_F), (50, garlandref03_UpTo_F), (51, garlandref03_In_F), (26, garlandref03_Far_F)]
theorem TN1_ok : TblOK Try.prog TN1 := tbl_ok (by
  simp only [List.mem_cons, List.not_mem_nil, or_false]
  rintro p (rfl | rfl | rfl | rfl)
  · exact garlandref13_First
  · exact garlandref03_UpTo
  · exact garlandref03_In
  · exact garlandref03_Far)
instance : Has TN1 25 garlandref13_First_F := ⟨rfl⟩
instance : Has TN1 50 garlandref03_UpTo_F := ⟨rfl⟩
instance : Has TN1 51 garlandref03_In_F := ⟨rfl⟩
instance : Has TN1 26 garlandref03_Far_F := ⟨rfl⟩

def L16 : CCode := (.loop [1, 3, 9, 10, 11] (.seq (.seq (.reg (⟨(some 32), .mv (.t 11), none⟩ ::
    ⟨(some 33), .mv (.t 10), none⟩ ::
    ⟨(some 34), .len false (.t 33), none⟩ ::
    ⟨(some 35), .bin .lss (.t 32) (.t 34), none⟩ ::
    []))
  (.cond (.t 35) .skip (.exit 0)))
  (.seq (.block 1 (.seq (.dreg (⟨(some 38), .mv (.t 10), none⟩ ::
    ⟨(some 39), .mv (.t 11), none⟩ ::
    ⟨(some 40), .ixs 1 (.t 38) (.t 39), none⟩ ::
    ⟨(some 41), .ld (.t 40), none⟩ ::
    ⟨(some 42), .bin .geq (.t 41) (.c (.d (.int .i64 0))), none⟩ ::
    ⟨(some 43), .mv (.t 42), none⟩ ::
    ⟨(some 44), .off 0 (.t 3), (some (43, true))⟩ ::
    ⟨(some 45), .ld (.t 44), (some (43, true))⟩ ::
    ⟨(some 46), .mv (.t 10), (some (43, true))⟩ ::
    ⟨(some 47), .mv (.t 11), (some (43, true))⟩ ::
    ⟨(some 48), .ixs 1 (.t 46) (.t 47), (some (43, true))⟩ ::
    ⟨(some 49), .ld (.t 48), (some (43, true))⟩ ::
    ⟨(some 50), .mv (.t 1), (some (43, true))⟩ ::
    ⟨(some 51), .call (.c (.fn 51 [])) [(.t 45), (.t 49), (.t 50)], (some (43, true))⟩ ::
    ⟨(some 52), .pick (.t 43) (.t 51) (.c (.d (.bool false))), none⟩ ::
    ⟨(some 53), .mv (.t 52), none⟩ ::
    ⟨(some 54), .off 0 (.t 3), (some (53, true))⟩ ::
    ⟨(some 55), .ld (.t 54), (some (53, true))⟩ ::
    ⟨(some 56), .mv (.t 10), (some (53, true))⟩ ::
    ⟨(some 57), .mv (.t 11), (some (53, true))⟩ ::
    ⟨(some 58), .ixs 1 (.t 56) (.t 57), (some (53, true))⟩ ::
    ⟨(some 59), .ld (.t 58), (some (53, true))⟩ ::
    ⟨(some 60), .call (.c (.fn 26 [])) [(.t 55), (.t 59)], (some (53, true))⟩ ::
    ⟨(some 61), .off 0 (.t 3), (some (53, true))⟩ ::
    ⟨(some 62), .ld (.t 61), (some (53, true))⟩ ::
    ⟨(some 63), .mv (.t 9), (some (53, true))⟩ ::
    ⟨(some 64), .call (.c (.fn 26 [])) [(.t 62), (.t 63)], (some (53, true))⟩ ::
    ⟨(some 65), .bin .gtr (.t 60) (.t 64), (some (53, true))⟩ ::
    ⟨(some 66), .pick (.t 53) (.t 65) (.c (.d (.bool false))), none⟩ ::
    []) ([]))
  (.cond (.t 66) (.reg (⟨(some 67), .mv (.t 10), none⟩ ::
    ⟨(some 68), .mv (.t 11), none⟩ ::
    ⟨(some 69), .ixs 1 (.t 67) (.t 68), none⟩ ::
    ⟨(some 70), .ld (.t 69), none⟩ ::
    ⟨(some 9), .mv (.t 70), none⟩ ::
    [])) .skip)))
  (.reg (⟨(some 36), .mv (.t 11), none⟩ ::
    ⟨(some 37), .bin .add (.t 36) (.c (.d (.int .i64 1))), none⟩ ::
    ⟨(some 11), .mv (.t 37), none⟩ ::
    [])))))
theorem L16_eq : L16 = .loop [1, 3, 9, 10, 11] (.seq (.seq (.reg (⟨(some 32), .mv (.t 11), none⟩ ::
    ⟨(some 33), .mv (.t 10), none⟩ ::
    ⟨(some 34), .len false (.t 33), none⟩ ::
    ⟨(some 35), .bin .lss (.t 32) (.t 34), none⟩ ::
    []))
  (.cond (.t 35) .skip (.exit 0)))
  (.seq (.block 1 (.seq (.dreg (⟨(some 38), .mv (.t 10), none⟩ ::
    ⟨(some 39), .mv (.t 11), none⟩ ::
    ⟨(some 40), .ixs 1 (.t 38) (.t 39), none⟩ ::
    ⟨(some 41), .ld (.t 40), none⟩ ::
    ⟨(some 42), .bin .geq (.t 41) (.c (.d (.int .i64 0))), none⟩ ::
    ⟨(some 43), .mv (.t 42), none⟩ ::
    ⟨(some 44), .off 0 (.t 3), (some (43, true))⟩ ::
    ⟨(some 45), .ld (.t 44), (some (43, true))⟩ ::
    ⟨(some 46), .mv (.t 10), (some (43, true))⟩ ::
    ⟨(some 47), .mv (.t 11), (some (43, true))⟩ ::
    ⟨(some 48), .ixs 1 (.t 46) (.t 47), (some (43, true))⟩ ::
    ⟨(some 49), .ld (.t 48), (some (43, true))⟩ ::
    ⟨(some 50), .mv (.t 1), (some (43, true))⟩ ::
    ⟨(some 51), .call (.c (.fn 51 [])) [(.t 45), (.t 49), (.t 50)], (some (43, true))⟩ ::
    ⟨(some 52), .pick (.t 43) (.t 51) (.c (.d (.bool false))), none⟩ ::
    ⟨(some 53), .mv (.t 52), none⟩ ::
    ⟨(some 54), .off 0 (.t 3), (some (53, true))⟩ ::
    ⟨(some 55), .ld (.t 54), (some (53, true))⟩ ::
    ⟨(some 56), .mv (.t 10), (some (53, true))⟩ ::
    ⟨(some 57), .mv (.t 11), (some (53, true))⟩ ::
    ⟨(some 58), .ixs 1 (.t 56) (.t 57), (some (53, true))⟩ ::
    ⟨(some 59), .ld (.t 58), (some (53, true))⟩ ::
    ⟨(some 60), .call (.c (.fn 26 [])) [(.t 55), (.t 59)], (some (53, true))⟩ ::
    ⟨(some 61), .off 0 (.t 3), (some (53, true))⟩ ::
    ⟨(some 62), .ld (.t 61), (some (53, true))⟩ ::
    ⟨(some 63), .mv (.t 9), (some (53, true))⟩ ::
    ⟨(some 64), .call (.c (.fn 26 [])) [(.t 62), (.t 63)], (some (53, true))⟩ ::
    ⟨(some 65), .bin .gtr (.t 60) (.t 64), (some (53, true))⟩ ::
    ⟨(some 66), .pick (.t 53) (.t 65) (.c (.d (.bool false))), none⟩ ::
    []) ([]))
  (.cond (.t 66) (.reg (⟨(some 67), .mv (.t 10), none⟩ ::
    ⟨(some 68), .mv (.t 11), none⟩ ::
    ⟨(some 69), .ixs 1 (.t 67) (.t 68), none⟩ ::
    ⟨(some 70), .ld (.t 69), none⟩ ::
    ⟨(some 9), .mv (.t 70), none⟩ ::
    [])) .skip)))
  (.reg (⟨(some 36), .mv (.t 11), none⟩ ::
    ⟨(some 37), .bin .add (.t 36) (.c (.d (.int .i64 1))), none⟩ ::
    ⟨(some 11), .mv (.t 37), none⟩ ::
    [])))) := rfl
def hp16 (v : VW) : Heap := [some (.cells v.cs), some (.tok 1 (v.lst.length + 16)), none, none, none, none, none, none]
theorem next16_loop (v : VW) (key : Int) (l : List Int) (hl : l.length < 9223372036854775808) : ∀ (k i : Nat), l.length - i = k → i ≤ l.length → ∀ (p : Int) (env : Env), look env 1 = some (.d (.int .i64 key)) → look env 3 = some (.ptr 0 0) → look env 9 = some (.d (.int .i64 p)) → look env 10 = some (.ws (rowsI l) 1) → look env 11 = some (.d (.int .i64 i)) →
    ∀ (Q : Ex → Env → St → Prop), (∀ env', look env' 9 = some (.d (.int .i64 (nextF v.id key p (l.drop i)))) → Q (.ex 0) env' ⟨hp16 v, []⟩) → W TN1 ⟨[], 0⟩ L16 env ⟨hp16 v, []⟩ Q := by
  intro k
  induction k with
  | zero =>
    intro i hk hi p env h1 h3 h9 h10 h11 Q hQ
    have hlt : ¬ i < l.length := by omega
    rw [L16_eq, W_loop]
    simp [-getElem?_pos, hp16, h1, h3, h9, h10, h11, stepK.lenA, rowsI_length, hlt]
    refine hQ _ ?_
    rw [List.drop_eq_nil_of_le (by omega)]
    simp [-getElem?_pos, h9, nextF]
  | succ k ih =>
    intro i hk hi p env h1 h3 h9 h10 h11 Q hQ
    have hlt : i < l.length := by omega
    obtain ⟨n, hn⟩ : ∃ n, l[i]? = some n := ⟨_, List.getElem?_eq_getElem hlt⟩
    have hd : l.drop i = n :: l.drop (i + 1) := by rw [List.drop_eq_getElem_cons hlt]; congr 1; exact (List.getElem?_eq_some_iff.1 hn).2
    have hw := wrapN1 i (by omega)
    rw [L16_eq, W_loop]
    simp [-getElem?_pos, hp16, h1, h3, h9, h10, h11, stepK.lenA, rowsI_length, rowsI_get, hn, hlt, cs_0, -Int.natCast_add]
    all_goals (try (first | refine WLV_splitN (fun hs => ?_) (fun hs => ?_) | refine WLC_splitN (fun hs => ?_) (fun hs => ?_) | refine WLB_splitN (fun hs => ?_) (fun hs => ?_) | refine WLPV_splitN (fun hs => ?_) (fun hs => ?_) | refine WLPC_splitN (fun hs => ?_) (fun hs => ?_) | refine WLPV_split (fun hs => ?_) (fun hs => ?_) | refine WLPC_split (fun hs => ?_) (fun hs => ?_) | refine WLV_split (fun hs => ?_) (fun hs => ?_) | refine WLC_split (fun hs => ?_) (fun hs => ?_) | refine WLB_split (fun hs => ?_) (fun hs => ?_)))
    all_goals (try (have hs' := hs; simp at hs'))
    all_goals (try simp [*, -getElem?_pos, h1, h3, h9, h10, h11, rowsI_get, hn, cs_0, cs_all, cs_lows, -Int.natCast_add])
    all_goals (try (first | refine WLV_splitN (fun hs => ?_) (fun hs => ?_) | refine WLC_splitN (fun hs => ?_) (fun hs => ?_) | refine WLB_splitN (fun hs => ?_) (fun hs => ?_) | refine WLPV_splitN (fun hs => ?_) (fun hs => ?_) | refine WLPC_splitN (fun hs => ?_) (fun hs => ?_) | refine WLPV_split (fun hs => ?_) (fun hs => ?_) | refine WLPC_split (fun hs => ?_) (fun hs => ?_) | refine WLV_split (fun hs => ?_) (fun hs => ?_) | refine WLC_split (fun hs => ?_) (fun hs => ?_) | refine WLB_split (fun hs => ?_) (fun hs => ?_)))
    all_goals (try (have hs' := hs; simp at hs'))
    all_goals (try simp [*, -getElem?_pos, h1, h3, h9, h10, h11, rowsI_get, hn, cs_0, cs_all, cs_lows, -Int.natCast_add])
    all_goals (try (first | refine WLV_splitN (fun hs => ?_) (fun hs => ?_) | refine WLC_splitN (fun hs => ?_) (fun hs => ?_) | refine WLB_splitN (fun hs => ?_) (fun hs => ?_) | refine WLPV_splitN (fun hs => ?_) (fun hs => ?_) | refine WLPC_splitN (fun hs => ?_) (fun hs => ?_) | refine WLPV_split (fun hs => ?_) (fun hs => ?_) | refine WLPC_split (fun hs => ?_) (fun hs => ?_) | refine WLV_split (fun hs => ?_) (fun hs => ?_) | refine WLC_split (fun hs => ?_) (fun hs => ?_) | refine WLB_split (fun hs => ?_) (fun hs => ?_)))
    all_goals (try (have hs' := hs; simp at hs'))
    all_goals (try simp [*, -getElem?_pos, h1, h3, h9, h10, h11, rowsI_get, hn, cs_0, cs_all, cs_lows, -Int.natCast_add])
    all_goals (refine (WL_of (c := L16)).1 (ih (i + 1) (by omega) (by omega) (bif decide (0 ≤ n) && inB v.id n key && decide (far v.id p < far v.id n) then n else p) _ ?_ ?_ ?_ ?_ ?_ Q (fun env' h => hQ env' ?_)))
    all_goals first
      | (simp [*, -getElem?_pos, h1, h3, h9, h10, h11, hw, -Int.natCast_add]; done)
      | (rw [h, hd]; rfl)
theorem rowsOk_nil {e : Nat} : rowsOk e [] = true := rfl
theorem rowsI_append (l k : List Int) : rowsI l ++ rowsI k = rowsI (l ++ k) := by simp [rowsI]
theorem first_right {v : VW} (h : 0 ≤ v.first) : v.right = true := by
  cases hr : v.right with
  | true => rfl
  | false =>
    have : v.anchor = -1 := by simp [VW.anchor, hr]
    unfold VW.first at h
    split at h
    · omega
    · rw [hr] at h; simp at h; omega
theorem right_len {v : VW} (h : v.right = true) : v.lst.length ≤ 3 := by
  unfold VW.right listRight at h
  simp only [Bool.and_eq_true, decide_eq_true_eq] at h
  exact h.1.1.1.2.2
theorem garlandref16_Next : Pure Try.prog 16 next_F := by
  refine con TN1_ok rfl rfl fun ⟨v, k, s⟩ _ => ⟨rfl, ?_⟩
  have hll := v.hl
  have hr : rows? [some (.cells v.cs)] 1 (.slr 0 4 16 1) = some (rowsI v.fin) := by
    simp [rows?, getO, cs_length, cs_fin, dats_ints, chunk_ints v.fin 16 v.hf.symm]
  simp [cf16, V_av, -getElem?_pos, cs_length, cs_take, cs_0, cs_2]
  all_goals (try (first | refine WLV_splitN (fun hs => ?_) (fun hs => ?_) | refine WLC_splitN (fun hs => ?_) (fun hs => ?_) | refine WLB_splitN (fun hs => ?_) (fun hs => ?_) | refine WLPV_splitN (fun hs => ?_) (fun hs => ?_) | refine WLPC_splitN (fun hs => ?_) (fun hs => ?_) | refine WLPV_split (fun hs => ?_) (fun hs => ?_) | refine WLPC_split (fun hs => ?_) (fun hs => ?_) | refine WLV_split (fun hs => ?_) (fun hs => ?_) | refine WLC_split (fun hs => ?_) (fun hs => ?_) | refine WLB_split (fun hs => ?_) (fun hs => ?_)))
  all_goals (try (have hs' := hs; simp at hs'))
  all_goals (try simp [*, -getElem?_pos, cs_0, cs_2, cs_all, cs_lows])
  all_goals (try (first | refine WLV_splitN (fun hs => ?_) (fun hs => ?_) | refine WLC_splitN (fun hs => ?_) (fun hs => ?_) | refine WLB_splitN (fun hs => ?_) (fun hs => ?_) | refine WLPV_splitN (fun hs => ?_) (fun hs => ?_) | refine WLPC_splitN (fun hs => ?_) (fun hs => ?_) | refine WLPV_split (fun hs => ?_) (fun hs => ?_) | refine WLPC_split (fun hs => ?_) (fun hs => ?_) | refine WLV_split (fun hs => ?_) (fun hs => ?_) | refine WLC_split (fun hs => ?_) (fun hs => ?_) | refine WLB_split (fun hs => ?_) (fun hs => ?_)))
  all_goals (try (have hs' := hs; simp at hs'))
  all_goals (try simp [*, -getElem?_pos, cs_0, cs_2, cs_all, cs_lows])
  all_goals (try (first | refine WLV_splitN (fun hs => ?_) (fun hs => ?_) | refine WLC_splitN (fun hs => ?_) (fun hs => ?_) | refine WLB_splitN (fun hs => ?_) (fun hs => ?_) | refine WLPV_splitN (fun hs => ?_) (fun hs => ?_) | refine WLPC_splitN (fun hs => ?_) (fun hs => ?_) | refine WLPV_split (fun hs => ?_) (fun hs => ?_) | refine WLPC_split (fun hs => ?_) (fun hs => ?_) | refine WLV_split (fun hs => ?_) (fun hs => ?_) | refine WLC_split (fun hs => ?_) (fun hs => ?_) | refine WLB_split (fun hs => ?_) (fun hs => ?_)))
  all_goals (try (have hs' := hs; simp at hs'))
  all_goals (try simp [*, -getElem?_pos, cs_0, cs_2, cs_all, cs_lows])
  all_goals try (simp [toDVs, VW.next, *, -getElem?_pos]; done)
  have h3 := right_len (first_right (by assumption : 0 ≤ v.first))
  have e1 : v.lst.length ≤ LIM := by unfold LIM; omega
  have e2 : v.lst.length + 16 ≤ LIM := by unfold LIM; omega
  have hr2 : rows? [some (.cells v.cs)] 1 (vsI v.lst) = some (rowsI v.lst) := by simp [rows?, rowsI_ok]
  simp [-getElem?_pos, fillA, dats?, chunk, cs_2, bound?, hr, hr2, stepK.getTok, rowsI_length, rowsI_ok, e1, e2, rowsOk_nil, rowsI_append, v.hf]
  rw [WL_code]
  refine next16_loop v k (v.lst ++ v.fin) (by rw [List.length_append, v.hf]; omega) (v.lst ++ v.fin).length 0 (by omega) (by omega) v.first _ ?_ ?_ ?_ ?_ ?_ _ (fun env' h => ?_)
  all_goals first
    | (simp [-getElem?_pos]; done)
    | (simp only [List.drop_zero] at h; simp [toDVs, VW.next, *, -getElem?_pos, h])
noncomputable abbrev garlandref16_Next_F := next_F
end Go.Proofs.Ytbeocehhclfbiaa.Lite
namespace Go.Proofs.Ytbeocehhclfbiaa.Lite
open Go
attribute [local simp] WL_of WL_nil WL_blk WL_skip WL_label WL_exit WL_goto WL_seq WL_block WL_cond WL_reg WL_ret WJ_nil WJ_ex WJ_gt WJ_rt WJ_exb WJ_gtb WJ_rtb WLO_nil WLO_call WO_mv WO_pick WO_new WO_box WO_ld WO_ldn WO_st WO_off WO_ixa WO_ixs WO_fld WO_fldn WO_ixv WO_ixvn WO_ixb WO_bin WO_eqb WO_isn WO_eqs WO_not WO_conv WO_mkf WO_bld WO_bls WO_sla WO_sls WO_sl0 WO_len WO_app WO_mnx WO_ext WO_nilc wants_none wants_some wantv_b wantv_t WLV_true WLV_false WLC_false WLB_true WLB_false evX_t evX_c evXs_nil evXs_cons look_put look_putN look_cons look_arg0 look_arg stepK binOpA intOp strOp evRes oneOf outs gc toDV AV.dat? I Bo av_s List.map List.append_nil getO putO AV.cellsOf bne WL_dreg WLP_nil WLP_call WP_mv WP_pick WP_new WP_box WP_ld WP_ldn WP_off WP_ixa WP_ixs WP_fld WP_fldn WP_ixv WP_ixvn WP_ixb WP_bin WP_eqb WP_isn WP_eqs WP_not WP_conv WP_mkf WP_bld WP_bls WP_sla WP_sls WP_sl0 WP_len WP_app WP_mnx WP_ext WP_nilc WLPV_true WLPV_false WLPC_false WLC_tells WLPC_tells padH onNm onEx List.getElem?_cons_zero List.getElem?_cons_succ List.getElem?_nil restrict AV.lows lay AV.isCell lowObj AObj.lows WJ_nm AV.lows.go WL_scope onGt_rt onGt_nm onGt_ex WL_sreg WP_st preSt eraseB List.set_cons_zero List.set_cons_succ

noncomputable def TN2 : Tbl := tbl [(45, view_First_F), (48, arc_UpTo_F), (71, arc_In_F), (47, arc_Far_F)]
theorem TN2_ok : TblOK Try.prog TN2 := tbl_ok (by
  simp only [List.mem_cons, List.not_mem_nil, or_false]
  rintro p (rfl | rfl | rfl | rfl)
  · exact view_First
  · exact arc_UpTo
  · exact arc_In
  · exact arc_Far)
instance : Has TN2 45 view_First_F := ⟨rfl⟩
instance : Has TN2 48 arc_UpTo_F := ⟨rfl⟩
instance : Has TN2 71 arc_In_F := ⟨rfl⟩
instance : Has TN2 47 arc_Far_F := ⟨rfl⟩

def recN (e0 : Env) : LRec := ⟨[31], (.reg (⟨(some 10), .mv (.t 31), none⟩ ::
    [])), (.block 2 (.seq (.dreg (⟨(some 32), .ld (.t 9), none⟩ ::
    ⟨(some 33), .mv (.t 10), none⟩ ::
    ⟨(some 34), .call (.t 32) [(.t 33)], none⟩ ::
    ⟨(some 35), .ld (.t 9), none⟩ ::
    ⟨(some 36), .ld (.t 6), none⟩ ::
    ⟨(some 37), .call (.t 35) [(.t 36)], none⟩ ::
    ⟨(some 38), .bin .gtr (.t 34) (.t 37), none⟩ ::
    []) ([]))
  (.cond (.t 38) (.reg (⟨(some 39), .mv (.t 10), none⟩ ::
    ⟨none, .st 1 (.t 6) (.t 39), none⟩ ::
    [])) .skip))), e0⟩
def hpN (v : VW) (k p : Int) : Heap := [some (.cells v.cs), some (.cells [.d (.int .i64 p)]), some (.cells [.fn 46 [.ptr 0 0]]), some (.cells v.cs), some (.cells [.d (.int .i64 k)]), none, none, none, none, none, none]

/-- one round -/
theorem roundN (v : VW) (key p n : Int) (e0 : Env) (g3 : look e0 3 = some (.ptr 0 0)) (g6 : look e0 6 = some (.ptr 1 0)) (g9 : look e0 9 = some (.ptr 2 0)) {dst : Option Nat} {os : List COp} {fs : List Fr} {env : Env} {Q : Ex → Env → St → Prop}
    (h : WLO TN2 ⟨[some (recN e0)], 0⟩ os fs (putE env dst (.d (.bool true))) ⟨hpN v key (bif decide (far v.id p < far v.id n) then n else p), [none]⟩ Q) :
    WLC TN2 ⟨[some (recN e0)], 0⟩ (some true) (some (.yld 0)) (some [.d (.int .i64 n)]) dst os fs env ⟨hpN v key p, [none]⟩ Q := by
  refine WLC_yld (r := recN e0) rfl rfl rfl ?_
  simp [recN, bindPs, hpN, -getElem?_pos, g3, g6, g9]
  refine WLPC_fn (cf := cf46) rfl rfl rfl (by simp [AV.lows, AV.lows.go]) ?_
  simp [cf46, afterPC, hideT, -getElem?_pos, cs_0, cs_all, g6, g9]
  refine WLPC_fn (cf := cf46) rfl rfl rfl (by simp [AV.lows, AV.lows.go]) ?_
  simp [cf46, afterPC, hideT, -getElem?_pos, cs_0, cs_all, g6, g9]
  all_goals (try (first | refine WLV_splitN (fun hs => ?_) (fun hs => ?_) | refine WLC_splitN (fun hs => ?_) (fun hs => ?_) | refine WLB_splitN (fun hs => ?_) (fun hs => ?_) | refine WLPV_splitN (fun hs => ?_) (fun hs => ?_) | refine WLPC_splitN (fun hs => ?_) (fun hs => ?_) | refine WLPV_split (fun hs => ?_) (fun hs => ?_) | refine WLPC_split (fun hs => ?_) (fun hs => ?_) | refine WLV_split (fun hs => ?_) (fun hs => ?_) | refine WLC_split (fun hs => ?_) (fun hs => ?_) | refine WLB_split (fun hs => ?_) (fun hs => ?_)))
  all_goals (try (have hs' := hs; simp at hs'))
  all_goals (try simp [*, -getElem?_pos, g6, afterY, cs_all, cs_lows])
  all_goals (simp only [*, cond_true, cond_false, hpN] at h)
  all_goals exact h

def L72 : CCode := (.loop [0, 1, 2, 12, 13, 16, 17, 18] (.seq (.reg (⟨(some 19), .bin .lss (.t 18) (.t 17), none⟩ ::
    []))
  (.seq (.cond (.t 19) .skip (.exit 2))
  (.seq (.block 3 (.seq (.reg (⟨(some 20), .ixs 1 (.t 16) (.t 18), none⟩ ::
    ⟨(some 21), .ld (.t 20), none⟩ ::
    ⟨(some 7), .mv (.t 21), none⟩ ::
    []))
  (.seq (.reg (⟨(some 22), .mv (.t 7), none⟩ ::
    ⟨(some 23), .bin .geq (.t 22) (.c (.d (.int .i64 0))), none⟩ ::
    ⟨(some 24), .mv (.t 23), none⟩ ::
    ⟨(some 25), .off 0 (.t 1), (some (24, true))⟩ ::
    ⟨(some 26), .ld (.t 25), (some (24, true))⟩ ::
    ⟨(some 27), .mv (.t 7), (some (24, true))⟩ ::
    ⟨(some 28), .ld (.t 2), (some (24, true))⟩ ::
    ⟨(some 29), .call (.c (.fn 71 [])) [(.t 26), (.t 27), (.t 28)], (some (24, true))⟩ ::
    ⟨(some 30), .pick (.t 24) (.t 29) (.c (.d (.bool false))), none⟩ ::
    ⟨(some 31), .mv (.t 30), none⟩ ::
    ⟨(some 32), .mv (.t 0), (some (31, true))⟩ ::
    ⟨(some 33), .mv (.t 7), (some (31, true))⟩ ::
    ⟨(some 34), .call (.t 32) [(.t 33)], (some (31, true))⟩ ::
    ⟨(some 35), .not (.t 34), (some (31, true))⟩ ::
    ⟨(some 36), .pick (.t 31) (.t 35) (.c (.d (.bool false))), none⟩ ::
    []))
  (.cond (.t 36) .ret .skip))))
  (.reg (⟨(some 37), .bin .add (.t 18) (.c (.d (.int .i64 1))), none⟩ ::
    ⟨(some 18), .mv (.t 37), none⟩ ::
    []))))))
theorem L72_eq : L72 = .loop [0, 1, 2, 12, 13, 16, 17, 18] (.seq (.reg (⟨(some 19), .bin .lss (.t 18) (.t 17), none⟩ ::
    []))
  (.seq (.cond (.t 19) .skip (.exit 2))
  (.seq (.block 3 (.seq (.reg (⟨(some 20), .ixs 1 (.t 16) (.t 18), none⟩ ::
    ⟨(some 21), .ld (.t 20), none⟩ ::
    ⟨(some 7), .mv (.t 21), none⟩ ::
    []))
  (.seq (.reg (⟨(some 22), .mv (.t 7), none⟩ ::
    ⟨(some 23), .bin .geq (.t 22) (.c (.d (.int .i64 0))), none⟩ ::
    ⟨(some 24), .mv (.t 23), none⟩ ::
    ⟨(some 25), .off 0 (.t 1), (some (24, true))⟩ ::
    ⟨(some 26), .ld (.t 25), (some (24, true))⟩ ::
    ⟨(some 27), .mv (.t 7), (some (24, true))⟩ ::
    ⟨(some 28), .ld (.t 2), (some (24, true))⟩ ::
    ⟨(some 29), .call (.c (.fn 71 [])) [(.t 26), (.t 27), (.t 28)], (some (24, true))⟩ ::
    ⟨(some 30), .pick (.t 24) (.t 29) (.c (.d (.bool false))), none⟩ ::
    ⟨(some 31), .mv (.t 30), none⟩ ::
    ⟨(some 32), .mv (.t 0), (some (31, true))⟩ ::
    ⟨(some 33), .mv (.t 7), (some (31, true))⟩ ::
    ⟨(some 34), .call (.t 32) [(.t 33)], (some (31, true))⟩ ::
    ⟨(some 35), .not (.t 34), (some (31, true))⟩ ::
    ⟨(some 36), .pick (.t 31) (.t 35) (.c (.d (.bool false))), none⟩ ::
    []))
  (.cond (.t 36) .ret .skip))))
  (.reg (⟨(some 37), .bin .add (.t 18) (.c (.d (.int .i64 1))), none⟩ ::
    ⟨(some 18), .mv (.t 37), none⟩ ::
    []))))) := rfl

theorem innerA (v : VW) (key : Int) (e0 : Env) (g3 : look e0 3 = some (.ptr 0 0)) (g6 : look e0 6 = some (.ptr 1 0)) (g9 : look e0 9 = some (.ptr 2 0)) (o : Nat) : ∀ (k i : Nat), v.lst.length - i = k → i ≤ v.lst.length → ∀ (p : Int) (env : Env),
    look env 0 = some (.yld 0) → look env 1 = some (.ptr 3 0) → look env 2 = some (.ptr 4 0) → look env 12 = some (.agg [vsI v.lst, .slr 3 4 16 1]) → look env 13 = some (.d (.int .i64 o)) → look env 16 = some (vsI v.lst) → look env 17 = some (.d (.int .i64 v.lst.length)) → look env 18 = some (.d (.int .i64 i)) →
    ∀ (Q : Ex → Env → St → Prop), (∀ env', look env' 0 = some (.yld 0) → look env' 1 = some (.ptr 3 0) → look env' 2 = some (.ptr 4 0) → look env' 12 = some (.agg [vsI v.lst, .slr 3 4 16 1]) → look env' 13 = some (.d (.int .i64 o)) →
      Q (.ex 2) env' ⟨hpN v key (nextF v.id key p (v.lst.drop i)), [none]⟩) → W TN2 ⟨[some (recN e0)], 0⟩ L72 env ⟨hpN v key p, [none]⟩ Q := by
  have hll := v.hl
  have hff := v.hf
  intro k
  induction k with
  | zero =>
    intro i hk hi p env h0 h1 h2 h12 h13 h16 h17 h18 Q hQ
    have hlt : decide ((i : Int) < v.lst.length) = false := by rw [decide_eq_false_iff_not]; omega
    rw [L72_eq, W_loop]
    have hltN : ¬ i < v.lst.length := by omega
    simp [-getElem?_pos, h0, h1, h2, h12, h13, h16, h17, h18, hlt, hltN]
    rw [List.drop_eq_nil_of_le (by omega)] at hQ
    refine hQ _ ?_ ?_ ?_ ?_ ?_ <;> simp [-getElem?_pos, h0, h1, h2, h12, h13]
  | succ k ih =>
    intro i hk hi p env h0 h1 h2 h12 h13 h16 h17 h18 Q hQ
    have hlt : decide ((i : Int) < v.lst.length) = true := by rw [decide_eq_true_eq]; omega
    have hlt2 : (i : Int) < v.lst.length := by omega
    obtain ⟨n, hn⟩ : ∃ n, v.lst[i]? = some n := ⟨_, List.getElem?_eq_getElem (by omega)⟩
    have hd : v.lst.drop i = n :: v.lst.drop (i + 1) := by rw [List.drop_eq_getElem_cons (by omega)]; congr 1; exact (List.getElem?_eq_some_iff.1 hn).2
    have hw := wrapN1 i (by omega)
    rw [L72_eq, W_loop]
    have hltN : i < v.lst.length := by omega
    have fin : ∀ env', look env' 0 = some (.yld 0) → look env' 1 = some (.ptr 3 0) → look env' 2 = some (.ptr 4 0) → look env' 12 = some (.agg [vsI v.lst, .slr 3 4 16 1]) → look env' 13 = some (.d (.int .i64 o)) → look env' 16 = some (vsI v.lst) → look env' 17 = some (.d (.int .i64 v.lst.length)) → look env' 18 = some (.d (.int .i64 (i + 1 : Nat))) →
        ∀ p', p' = (bif decide (0 ≤ n) && inB v.id n key && decide (far v.id p < far v.id n) then n else p) → WL TN2 ⟨[some (recN e0)], 0⟩ [.code L72] env' ⟨hpN v key p', [none]⟩ Q := by
      intro env' a0 a1 a2 a12 a13 a16 a17 a18 p' hp
      subst hp
      exact (WL_of (c := L72)).1 (ih (i + 1) (by omega) (by omega) _ _ a0 a1 a2 a12 a13 a16 a17 a18 Q (by rw [hd] at hQ; exact hQ))
    simp [-getElem?_pos, hpN, h0, h1, h2, h12, h13, h16, h17, h18, hlt, hlt2, hltN, rowsI_get, cs_4i, hn, cs_0, -Int.natCast_add]
    all_goals (try (first | refine WLV_splitN (fun hs => ?_) (fun hs => ?_) | refine WLC_splitN (fun hs => ?_) (fun hs => ?_) | refine WLB_splitN (fun hs => ?_) (fun hs => ?_) | refine WLPV_splitN (fun hs => ?_) (fun hs => ?_) | refine WLPC_splitN (fun hs => ?_) (fun hs => ?_) | refine WLPV_split (fun hs => ?_) (fun hs => ?_) | refine WLPC_split (fun hs => ?_) (fun hs => ?_) | refine WLV_split (fun hs => ?_) (fun hs => ?_) | refine WLC_split (fun hs => ?_) (fun hs => ?_) | refine WLB_split (fun hs => ?_) (fun hs => ?_)))
    all_goals (try (have hs' := hs; simp at hs'))
    all_goals (try simp [*, -getElem?_pos, h0, h1, h2, h12, h13, h16, h17, h18, rowsI_get, cs_4i, hn, cs_0, cs_all, cs_lows, -Int.natCast_add])
    all_goals (try (first | refine WLV_splitN (fun hs => ?_) (fun hs => ?_) | refine WLC_splitN (fun hs => ?_) (fun hs => ?_) | refine WLB_splitN (fun hs => ?_) (fun hs => ?_) | refine WLPV_splitN (fun hs => ?_) (fun hs => ?_) | refine WLPC_splitN (fun hs => ?_) (fun hs => ?_) | refine WLPV_split (fun hs => ?_) (fun hs => ?_) | refine WLPC_split (fun hs => ?_) (fun hs => ?_) | refine WLV_split (fun hs => ?_) (fun hs => ?_) | refine WLC_split (fun hs => ?_) (fun hs => ?_) | refine WLB_split (fun hs => ?_) (fun hs => ?_)))
    all_goals (try (have hs' := hs; simp at hs'))
    all_goals (try simp [*, -getElem?_pos, h0, h1, h2, h12, h13, h16, h17, h18, rowsI_get, cs_4i, hn, cs_0, cs_all, cs_lows, -Int.natCast_add])
    · refine roundN v key p n e0 g3 g6 g9 ?_
      simp [-getElem?_pos, hpN, h0, h1, h2, h12, h13, h16, h17, h18, cs_all, cs_lows, -Int.natCast_add]
      refine fin _ ?_ ?_ ?_ ?_ ?_ ?_ ?_ ?_ _ (by simp [*]) <;> simp [*, -getElem?_pos, h0, h1, h2, h12, h13, h16, h17, h18, hw, -Int.natCast_add]
    all_goals (refine fin _ ?_ ?_ ?_ ?_ ?_ ?_ ?_ ?_ p (by simp [*]) <;> simp [*, -getElem?_pos, h0, h1, h2, h12, h13, h16, h17, h18, hw, -Int.natCast_add])
theorem innerB (v : VW) (key : Int) (e0 : Env) (g3 : look e0 3 = some (.ptr 0 0)) (g6 : look e0 6 = some (.ptr 1 0)) (g9 : look e0 9 = some (.ptr 2 0)) (o : Nat) : ∀ (k i : Nat), v.fin.length - i = k → i ≤ v.fin.length → ∀ (p : Int) (env : Env),
    look env 0 = some (.yld 0) → look env 1 = some (.ptr 3 0) → look env 2 = some (.ptr 4 0) → look env 12 = some (.agg [vsI v.lst, .slr 3 4 16 1]) → look env 13 = some (.d (.int .i64 o)) → look env 16 = some (.slr 3 4 16 1) → look env 17 = some (.d (.int .i64 16)) → look env 18 = some (.d (.int .i64 i)) →
    ∀ (Q : Ex → Env → St → Prop), (∀ env', look env' 0 = some (.yld 0) → look env' 1 = some (.ptr 3 0) → look env' 2 = some (.ptr 4 0) → look env' 12 = some (.agg [vsI v.lst, .slr 3 4 16 1]) → look env' 13 = some (.d (.int .i64 o)) →
      Q (.ex 2) env' ⟨hpN v key (nextF v.id key p (v.fin.drop i)), [none]⟩) → W TN2 ⟨[some (recN e0)], 0⟩ L72 env ⟨hpN v key p, [none]⟩ Q := by
  have hll := v.hl
  have hff := v.hf
  intro k
  induction k with
  | zero =>
    intro i hk hi p env h0 h1 h2 h12 h13 h16 h17 h18 Q hQ
    have hlt : decide ((i : Int) < 16) = false := by rw [decide_eq_false_iff_not]; omega
    rw [L72_eq, W_loop]
    have hltN : ¬ i < 16 := by omega
    simp [-getElem?_pos, h0, h1, h2, h12, h13, h16, h17, h18, hlt, hltN]
    rw [List.drop_eq_nil_of_le (by omega)] at hQ
    refine hQ _ ?_ ?_ ?_ ?_ ?_ <;> simp [-getElem?_pos, h0, h1, h2, h12, h13]
  | succ k ih =>
    intro i hk hi p env h0 h1 h2 h12 h13 h16 h17 h18 Q hQ
    have hlt : decide ((i : Int) < 16) = true := by rw [decide_eq_true_eq]; omega
    have hlt2 : (i : Int) < 16 := by omega
    obtain ⟨n, hn⟩ : ∃ n, v.fin[i]? = some n := ⟨_, List.getElem?_eq_getElem (by omega)⟩
    have hd : v.fin.drop i = n :: v.fin.drop (i + 1) := by rw [List.drop_eq_getElem_cons (by omega)]; congr 1; exact (List.getElem?_eq_some_iff.1 hn).2
    have hw := wrapN1 i (by omega)
    rw [L72_eq, W_loop]
    have hltN : i < 16 := by omega
    have fin : ∀ env', look env' 0 = some (.yld 0) → look env' 1 = some (.ptr 3 0) → look env' 2 = some (.ptr 4 0) → look env' 12 = some (.agg [vsI v.lst, .slr 3 4 16 1]) → look env' 13 = some (.d (.int .i64 o)) → look env' 16 = some (.slr 3 4 16 1) → look env' 17 = some (.d (.int .i64 16)) → look env' 18 = some (.d (.int .i64 (i + 1 : Nat))) →
        ∀ p', p' = (bif decide (0 ≤ n) && inB v.id n key && decide (far v.id p < far v.id n) then n else p) → WL TN2 ⟨[some (recN e0)], 0⟩ [.code L72] env' ⟨hpN v key p', [none]⟩ Q := by
      intro env' a0 a1 a2 a12 a13 a16 a17 a18 p' hp
      subst hp
      exact (WL_of (c := L72)).1 (ih (i + 1) (by omega) (by omega) _ _ a0 a1 a2 a12 a13 a16 a17 a18 Q (by rw [hd] at hQ; exact hQ))
    simp [-getElem?_pos, hpN, h0, h1, h2, h12, h13, h16, h17, h18, hlt, hlt2, hltN, rowsI_get, cs_4i, hn, cs_0, -Int.natCast_add]
    all_goals (try (first | refine WLV_splitN (fun hs => ?_) (fun hs => ?_) | refine WLC_splitN (fun hs => ?_) (fun hs => ?_) | refine WLB_splitN (fun hs => ?_) (fun hs => ?_) | refine WLPV_splitN (fun hs => ?_) (fun hs => ?_) | refine WLPC_splitN (fun hs => ?_) (fun hs => ?_) | refine WLPV_split (fun hs => ?_) (fun hs => ?_) | refine WLPC_split (fun hs => ?_) (fun hs => ?_) | refine WLV_split (fun hs => ?_) (fun hs => ?_) | refine WLC_split (fun hs => ?_) (fun hs => ?_) | refine WLB_split (fun hs => ?_) (fun hs => ?_)))
    all_goals (try (have hs' := hs; simp at hs'))
    all_goals (try simp [*, -getElem?_pos, h0, h1, h2, h12, h13, h16, h17, h18, rowsI_get, cs_4i, hn, cs_0, cs_all, cs_lows, -Int.natCast_add])
    all_goals (try (first | refine WLV_splitN (fun hs => ?_) (fun hs => ?_) | refine WLC_splitN (fun hs => ?_) (fun hs => ?_) | refine WLB_splitN (fun hs => ?_) (fun hs => ?_) | refine WLPV_splitN (fun hs => ?_) (fun hs => ?_) | refine WLPC_splitN (fun hs => ?_) (fun hs => ?_) | refine WLPV_split (fun hs => ?_) (fun hs => ?_) | refine WLPC_split (fun hs => ?_) (fun hs => ?_) | refine WLV_split (fun hs => ?_) (fun hs => ?_) | refine WLC_split (fun hs => ?_) (fun hs => ?_) | refine WLB_split (fun hs => ?_) (fun hs => ?_)))
    all_goals (try (have hs' := hs; simp at hs'))
    all_goals (try simp [*, -getElem?_pos, h0, h1, h2, h12, h13, h16, h17, h18, rowsI_get, cs_4i, hn, cs_0, cs_all, cs_lows, -Int.natCast_add])
    · refine roundN v key p n e0 g3 g6 g9 ?_
      simp [-getElem?_pos, hpN, h0, h1, h2, h12, h13, h16, h17, h18, cs_all, cs_lows, -Int.natCast_add]
      refine fin _ ?_ ?_ ?_ ?_ ?_ ?_ ?_ ?_ _ (by simp [*]) <;> simp [*, -getElem?_pos, h0, h1, h2, h12, h13, h16, h17, h18, hw, -Int.natCast_add]
    all_goals (refine fin _ ?_ ?_ ?_ ?_ ?_ ?_ ?_ ?_ p (by simp [*]) <;> simp [*, -getElem?_pos, h0, h1, h2, h12, h13, h16, h17, h18, hw, -Int.natCast_add])

theorem nextF_append (id k : Int) : ∀ (l m : List Int) (p : Int), nextF id k p (l ++ m) = nextF id k (nextF id k p l) m
  | [], m, p => rfl
  | x :: l, m, p => by simp only [List.cons_append, nextF]; exact nextF_append id k l m _
def L72o : CCode := (.loop [0, 1, 2, 12, 13] (.seq (.reg (⟨(some 14), .bin .lss (.t 13) (.c (.d (.int .i64 2))), none⟩ ::
    []))
  (.seq (.cond (.t 14) .skip (.exit 0))
  (.seq (.block 1 (.seq (.reg (⟨(some 15), .ixv 2 (.t 12) (.t 13), none⟩ ::
    ⟨(some 5), .mv (.t 15), none⟩ ::
    []))
  (.seq (.reg (⟨(some 16), .mv (.t 5), none⟩ ::
    ⟨(some 17), .len false (.t 16), none⟩ ::
    ⟨(some 18), .mv (.c (.d (.int .i64 0))), none⟩ ::
    []))
  (.block 2 (.loop [0, 1, 2, 12, 13, 16, 17, 18] (.seq (.reg (⟨(some 19), .bin .lss (.t 18) (.t 17), none⟩ ::
    []))
  (.seq (.cond (.t 19) .skip (.exit 2))
  (.seq (.block 3 (.seq (.reg (⟨(some 20), .ixs 1 (.t 16) (.t 18), none⟩ ::
    ⟨(some 21), .ld (.t 20), none⟩ ::
    ⟨(some 7), .mv (.t 21), none⟩ ::
    []))
  (.seq (.reg (⟨(some 22), .mv (.t 7), none⟩ ::
    ⟨(some 23), .bin .geq (.t 22) (.c (.d (.int .i64 0))), none⟩ ::
    ⟨(some 24), .mv (.t 23), none⟩ ::
    ⟨(some 25), .off 0 (.t 1), (some (24, true))⟩ ::
    ⟨(some 26), .ld (.t 25), (some (24, true))⟩ ::
    ⟨(some 27), .mv (.t 7), (some (24, true))⟩ ::
    ⟨(some 28), .ld (.t 2), (some (24, true))⟩ ::
    ⟨(some 29), .call (.c (.fn 71 [])) [(.t 26), (.t 27), (.t 28)], (some (24, true))⟩ ::
    ⟨(some 30), .pick (.t 24) (.t 29) (.c (.d (.bool false))), none⟩ ::
    ⟨(some 31), .mv (.t 30), none⟩ ::
    ⟨(some 32), .mv (.t 0), (some (31, true))⟩ ::
    ⟨(some 33), .mv (.t 7), (some (31, true))⟩ ::
    ⟨(some 34), .call (.t 32) [(.t 33)], (some (31, true))⟩ ::
    ⟨(some 35), .not (.t 34), (some (31, true))⟩ ::
    ⟨(some 36), .pick (.t 31) (.t 35) (.c (.d (.bool false))), none⟩ ::
    []))
  (.cond (.t 36) .ret .skip))))
  (.reg (⟨(some 37), .bin .add (.t 18) (.c (.d (.int .i64 1))), none⟩ ::
    ⟨(some 18), .mv (.t 37), none⟩ ::
    []))))))))))
  (.reg (⟨(some 38), .bin .add (.t 13) (.c (.d (.int .i64 1))), none⟩ ::
    ⟨(some 13), .mv (.t 38), none⟩ ::
    []))))))
theorem L72o_eq : L72o = .loop [0, 1, 2, 12, 13] (.seq (.reg (⟨(some 14), .bin .lss (.t 13) (.c (.d (.int .i64 2))), none⟩ ::
    []))
  (.seq (.cond (.t 14) .skip (.exit 0))
  (.seq (.block 1 (.seq (.reg (⟨(some 15), .ixv 2 (.t 12) (.t 13), none⟩ ::
    ⟨(some 5), .mv (.t 15), none⟩ ::
    []))
  (.seq (.reg (⟨(some 16), .mv (.t 5), none⟩ ::
    ⟨(some 17), .len false (.t 16), none⟩ ::
    ⟨(some 18), .mv (.c (.d (.int .i64 0))), none⟩ ::
    []))
  (.block 2 (.loop [0, 1, 2, 12, 13, 16, 17, 18] (.seq (.reg (⟨(some 19), .bin .lss (.t 18) (.t 17), none⟩ ::
    []))
  (.seq (.cond (.t 19) .skip (.exit 2))
  (.seq (.block 3 (.seq (.reg (⟨(some 20), .ixs 1 (.t 16) (.t 18), none⟩ ::
    ⟨(some 21), .ld (.t 20), none⟩ ::
    ⟨(some 7), .mv (.t 21), none⟩ ::
    []))
  (.seq (.reg (⟨(some 22), .mv (.t 7), none⟩ ::
    ⟨(some 23), .bin .geq (.t 22) (.c (.d (.int .i64 0))), none⟩ ::
    ⟨(some 24), .mv (.t 23), none⟩ ::
    ⟨(some 25), .off 0 (.t 1), (some (24, true))⟩ ::
    ⟨(some 26), .ld (.t 25), (some (24, true))⟩ ::
    ⟨(some 27), .mv (.t 7), (some (24, true))⟩ ::
    ⟨(some 28), .ld (.t 2), (some (24, true))⟩ ::
    ⟨(some 29), .call (.c (.fn 71 [])) [(.t 26), (.t 27), (.t 28)], (some (24, true))⟩ ::
    ⟨(some 30), .pick (.t 24) (.t 29) (.c (.d (.bool false))), none⟩ ::
    ⟨(some 31), .mv (.t 30), none⟩ ::
    ⟨(some 32), .mv (.t 0), (some (31, true))⟩ ::
    ⟨(some 33), .mv (.t 7), (some (31, true))⟩ ::
    ⟨(some 34), .call (.t 32) [(.t 33)], (some (31, true))⟩ ::
    ⟨(some 35), .not (.t 34), (some (31, true))⟩ ::
    ⟨(some 36), .pick (.t 31) (.t 35) (.c (.d (.bool false))), none⟩ ::
    []))
  (.cond (.t 36) .ret .skip))))
  (.reg (⟨(some 37), .bin .add (.t 18) (.c (.d (.int .i64 1))), none⟩ ::
    ⟨(some 18), .mv (.t 37), none⟩ ::
    []))))))))))
  (.reg (⟨(some 38), .bin .add (.t 13) (.c (.d (.int .i64 1))), none⟩ ::
    ⟨(some 13), .mv (.t 38), none⟩ ::
    []))))) := rfl
theorem outer72 (v : VW) (key : Int) (e0 : Env) (g3 : look e0 3 = some (.ptr 0 0)) (g6 : look e0 6 = some (.ptr 1 0)) (g9 : look e0 9 = some (.ptr 2 0)) (p : Int) (env : Env)
    (h0 : look env 0 = some (.yld 0)) (h1 : look env 1 = some (.ptr 3 0)) (h2 : look env 2 = some (.ptr 4 0)) (h12 : look env 12 = some (.agg [vsI v.lst, .slr 3 4 16 1])) (h13 : look env 13 = some (.d (.int .i64 0)))
    (Q : Ex → Env → St → Prop) (hQ : ∀ env', Q (.ex 0) env' ⟨hpN v key (nextF v.id key p (v.lst ++ v.fin)), [none]⟩) : W TN2 ⟨[some (recN e0)], 0⟩ L72o env ⟨hpN v key p, [none]⟩ Q := by
  rw [L72o_eq, W_loop]
  simp [-getElem?_pos, h0, h1, h2, h12, h13, stepK.lenA, rowsI_length]
  rw [WL_code]
  refine innerA v key e0 g3 g6 g9 0 v.lst.length 0 (by omega) (by omega) p _ ?_ ?_ ?_ ?_ ?_ ?_ ?_ ?_ _ (fun env' a0 a1 a2 a12 a13 => ?_)
  all_goals (try (simp [-getElem?_pos, h0, h1, h2, h12, h13]; done))
  simp [-getElem?_pos, hpN, a0, a1, a2, a12, a13, cs_all, cs_lows]
  rw [← WL_of, W_loop]
  have w1 : IntKind.i64.wrap 1 = 1 := rfl
  have w2 : IntKind.i64.wrap 2 = 2 := rfl
  simp [-getElem?_pos, stepK.lenA, w1]
  rw [WL_code]
  refine innerB v key e0 g3 g6 g9 1 16 0 (by rw [v.hf]) (by omega) _ _ ?_ ?_ ?_ ?_ ?_ ?_ ?_ ?_ _ (fun env2 b0 b1 b2 b12 b13 => ?_)
  all_goals (try (simp [-getElem?_pos]; done))
  simp [-getElem?_pos, hpN, b0, b1, b2, b12, b13, cs_all, cs_lows, w2]
  rw [← WL_of, W_loop]
  simp [-getElem?_pos]
  simp only [List.drop_zero, ← nextF_append]
  exact hQ _
theorem hop_Next : Pure Try.prog 15 next_F := by
  refine con TN2_ok rfl rfl fun ⟨v, k, s⟩ _ => ⟨rfl, ?_⟩
  simp [cf15, V_av, -getElem?_pos, cs_length, cs_take, cs_0, cs_2]
  all_goals (try (first | refine WLV_splitN (fun hs => ?_) (fun hs => ?_) | refine WLC_splitN (fun hs => ?_) (fun hs => ?_) | refine WLB_splitN (fun hs => ?_) (fun hs => ?_) | refine WLPV_splitN (fun hs => ?_) (fun hs => ?_) | refine WLPC_splitN (fun hs => ?_) (fun hs => ?_) | refine WLPV_split (fun hs => ?_) (fun hs => ?_) | refine WLPC_split (fun hs => ?_) (fun hs => ?_) | refine WLV_split (fun hs => ?_) (fun hs => ?_) | refine WLC_split (fun hs => ?_) (fun hs => ?_) | refine WLB_split (fun hs => ?_) (fun hs => ?_)))
  all_goals (try (have hs' := hs; simp at hs'))
  all_goals (try simp [*, -getElem?_pos, cs_0, cs_2, cs_length, cs_take, cs_all, cs_lows])
  all_goals (try (first | refine WLV_splitN (fun hs => ?_) (fun hs => ?_) | refine WLC_splitN (fun hs => ?_) (fun hs => ?_) | refine WLB_splitN (fun hs => ?_) (fun hs => ?_) | refine WLPV_splitN (fun hs => ?_) (fun hs => ?_) | refine WLPC_splitN (fun hs => ?_) (fun hs => ?_) | refine WLPV_split (fun hs => ?_) (fun hs => ?_) | refine WLPC_split (fun hs => ?_) (fun hs => ?_) | refine WLV_split (fun hs => ?_) (fun hs => ?_) | refine WLC_split (fun hs => ?_) (fun hs => ?_) | refine WLB_split (fun hs => ?_) (fun hs => ?_)))
  all_goals (try (have hs' := hs; simp at hs'))
  all_goals (try simp [*, -getElem?_pos, cs_0, cs_2, cs_length, cs_take, cs_all, cs_lows])
  all_goals (try (first | refine WLV_splitN (fun hs => ?_) (fun hs => ?_) | refine WLC_splitN (fun hs => ?_) (fun hs => ?_) | refine WLB_splitN (fun hs => ?_) (fun hs => ?_) | refine WLPV_splitN (fun hs => ?_) (fun hs => ?_) | refine WLPC_splitN (fun hs => ?_) (fun hs => ?_) | refine WLPV_split (fun hs => ?_) (fun hs => ?_) | refine WLPC_split (fun hs => ?_) (fun hs => ?_) | refine WLV_split (fun hs => ?_) (fun hs => ?_) | refine WLC_split (fun hs => ?_) (fun hs => ?_) | refine WLB_split (fun hs => ?_) (fun hs => ?_)))
  all_goals (try (have hs' := hs; simp at hs'))
  all_goals (try simp [*, -getElem?_pos, cs_0, cs_2, cs_length, cs_take, cs_all, cs_lows])
  all_goals try (simp [toDVs, VW.next, *, -getElem?_pos]; done)
  refine WLC_fn (cf := cf49) rfl rfl rfl ?_
  simp [cf49, afterC, -getElem?_pos, cs_all, cs_lows]
  refine WL_range (cf := cf72) rfl rfl rfl rfl ?_
  simp [cf72, -getElem?_pos, cs_2, bound?, fillA]
  rw [WL_code]
  refine outer72 v k _ ?_ ?_ ?_ v.first _ ?_ ?_ ?_ ?_ ?_ _ (fun env' => ?_)
  all_goals (try (simp [-getElem?_pos]; done))
  simp [-getElem?_pos, hpN, afterR, cs_all, cs_lows]
  simp [toDVs, VW.next, *, -getElem?_pos]
noncomputable abbrev hop_Next_F := next_F
end Go.Proofs.Ytbeocehhclfbiaa.Lite
namespace Go.Proofs.Ytbeocehhclfbiaa.Lite
open Go
attribute [local simp] WL_of WL_nil WL_blk WL_skip WL_label WL_exit WL_goto WL_seq WL_block WL_cond WL_reg WL_ret WJ_nil WJ_ex WJ_gt WJ_rt WJ_exb WJ_gtb WJ_rtb WLO_nil WLO_call WO_mv WO_pick WO_new WO_box WO_ld WO_ldn WO_st WO_off WO_ixa WO_ixs WO_fld WO_fldn WO_ixv WO_ixvn WO_ixb WO_bin WO_eqb WO_isn WO_eqs WO_not WO_conv WO_mkf WO_bld WO_bls WO_sla WO_sls WO_sl0 WO_len WO_app WO_mnx WO_ext WO_nilc wants_none wants_some wantv_b wantv_t WLV_true WLV_false WLC_false WLB_true WLB_false evX_t evX_c evXs_nil evXs_cons look_put look_putN look_cons look_arg0 look_arg stepK binOpA intOp strOp evRes oneOf outs gc toDV AV.dat? I Bo av_s List.map List.append_nil getO putO AV.cellsOf bne WL_dreg WLP_nil WLP_call WP_mv WP_pick WP_new WP_box WP_ld WP_ldn WP_off WP_ixa WP_ixs WP_fld WP_fldn WP_ixv WP_ixvn WP_ixb WP_bin WP_eqb WP_isn WP_eqs WP_not WP_conv WP_mkf WP_bld WP_bls WP_sla WP_sls WP_sl0 WP_len WP_app WP_mnx WP_ext WP_nilc WLPV_true WLPV_false WLPC_false WLC_tells WLPC_tells padH onNm onEx List.getElem?_cons_zero List.getElem?_cons_succ List.getElem?_nil restrict AV.lows lay AV.isCell lowObj AObj.lows WJ_nm AV.lows.go WL_scope onGt_rt onGt_nm onGt_ex WL_sreg WP_st preSt eraseB List.set_cons_zero List.set_cons_succ

structure MW where
  kind : Int
  call : Int
  src : Int
  dest : Int
  key : Int
  slow : Bool
  fin : Bool
  place : Int
  pred : Int
  lst : List Int
  ikey : List UInt8
  ival : Int
  iver : Int
  gone : Bool
  code : Int
  hl : lst.length < 9223372036854775808

def MW.dats (m : MW) : List Dat := [.int .u8 m.kind, .int .i64 m.call, .int .i64 m.src, .int .i64 m.dest, .int .i64 m.key, .bool m.slow, .bool m.fin, .int .i64 m.place, .int .i64 m.pred, .sl (rowsI m.lst), .str m.ikey, .int .i64 m.ival, .int .i64 m.iver, .bool m.gone, .int .i64 m.code]
def MW.cs (m : MW) : List AV := [.d (.int .u8 m.kind), .d (.int .i64 m.call), .d (.int .i64 m.src), .d (.int .i64 m.dest), .d (.int .i64 m.key), .d (.bool m.slow), .d (.bool m.fin), .d (.int .i64 m.place), .d (.int .i64 m.pred), vsI m.lst, .d (.str m.ikey), .d (.int .i64 m.ival), .d (.int .i64 m.iver), .d (.bool m.gone), .d (.int .i64 m.code)]
def Mg (m : MW) : DV := .g m.dats
theorem Mg_av (m : MW) : (Mg m).av = .agg m.cs := rfl
theorem MW.inj {m u : MW} (h : m.dats = u.dats) : m = u := by
  obtain ⟨⟩ := m
  obtain ⟨⟩ := u
  simp only [MW.dats, List.cons.injEq, Dat.int.injEq, Dat.bool.injEq, Dat.str.injEq, true_and, Dat.sl.injEq, and_true] at h
  obtain ⟨h1, h2, h3, h4, h5, h6, h7, h8, h9, h10, h11, h12, h13, h14, h15⟩ := h
  have := rowsI_inj h10
  simp_all
theorem mcs_dats (m : MW) : dats? m.cs = some m.dats := rfl
theorem mcs_lows (m : MW) (N M : Nat) : AV.lows.go N M m.cs = true := rfl
theorem mcs_all (m : MW) (N M : Nat) : m.cs.all (AV.lows N M) = true := rfl

theorem orcM {out : MW → List DV} (m : MW) : orcOf (fun m : MW => [Mg m]) (fun _ => True) out [Mg m] = some (out m) :=
  orcOf_eq (enc := fun m : MW => [Mg m]) (x := m) trivial (fun y h => by
    simp only [Mg, List.cons.injEq, DV.g.injEq, and_true] at h
    exact MW.inj h)
theorem toM (m : MW) (h : Heap) : toDVs h [.agg m.cs] = some [Mg m] := by simp [toDVs, toDV, mcs_dats, Mg]

def MW.asks (m : MW) : Bool := decide (m.kind > 0) && decide (m.kind ≤ 6)
noncomputable def asks_F := orcOf (fun m : MW => [Mg m]) (fun _ => True) (fun m => [Bo m.asks])
instance (m : MW) : Tells asks_F [.agg m.cs] (.d (.bool m.asks)) := ⟨[Mg m], [Bo m.asks], toM m, orcM m, rfl, rfl, fun _ _ => rfl⟩
theorem msg_Asks : Pure Try.prog 81 asks_F := by
  refine con (T := tbl []) (tbl_ok (by simp)) rfl rfl fun m _ => ⟨rfl, ?_⟩
  simp [cf81, Mg_av, -getElem?_pos, MW.cs, MW.asks]
  all_goals (try (first | refine WLV_splitN (fun hs => ?_) (fun hs => ?_) | refine WLC_splitN (fun hs => ?_) (fun hs => ?_) | refine WLB_splitN (fun hs => ?_) (fun hs => ?_) | refine WLPV_splitN (fun hs => ?_) (fun hs => ?_) | refine WLPC_splitN (fun hs => ?_) (fun hs => ?_) | refine WLPV_split (fun hs => ?_) (fun hs => ?_) | refine WLPC_split (fun hs => ?_) (fun hs => ?_) | refine WLV_split (fun hs => ?_) (fun hs => ?_) | refine WLC_split (fun hs => ?_) (fun hs => ?_) | refine WLB_split (fun hs => ?_) (fun hs => ?_)))
  all_goals (try (have hs' := hs; simp at hs'))
  all_goals (try simp [*, -getElem?_pos])
noncomputable abbrev msg_Asks_F := asks_F
theorem garlandref06_Asks : Pure Try.prog 82 asks_F := by
  refine con (T := tbl []) (tbl_ok (by simp)) rfl rfl fun m _ => ⟨rfl, ?_⟩
  simp [cf82, Mg_av, -getElem?_pos, MW.cs, MW.asks]
  all_goals (try (first | refine WLV_splitN (fun hs => ?_) (fun hs => ?_) | refine WLC_splitN (fun hs => ?_) (fun hs => ?_) | refine WLB_splitN (fun hs => ?_) (fun hs => ?_) | refine WLPV_splitN (fun hs => ?_) (fun hs => ?_) | refine WLPC_splitN (fun hs => ?_) (fun hs => ?_) | refine WLPV_split (fun hs => ?_) (fun hs => ?_) | refine WLPC_split (fun hs => ?_) (fun hs => ?_) | refine WLV_split (fun hs => ?_) (fun hs => ?_) | refine WLC_split (fun hs => ?_) (fun hs => ?_) | refine WLB_split (fun hs => ?_) (fun hs => ?_)))
  all_goals (try (have hs' := hs; simp at hs'))
  all_goals (try simp [*, -getElem?_pos])
  all_goals omega
noncomputable abbrev garlandref06_Asks_F := asks_F
def MW.asker (m : MW) : Int := bif m.asks then m.src else m.dest
noncomputable def asker_F := orcOf (fun m : MW => [Mg m]) (fun _ => True) (fun m => [I m.asker])
instance (m : MW) : Tells asker_F [.agg m.cs] (.d (.int .i64 m.asker)) := ⟨[Mg m], [I m.asker], toM m, orcM m, rfl, rfl, fun _ _ => rfl⟩
theorem mcs_len (m : MW) : m.cs.length = 15 := rfl
theorem mcs_take (m : MW) : m.cs.take 15 = m.cs := rfl
theorem mcs_2 (m : MW) : m.cs[2]? = some (.d (.int .i64 m.src)) := rfl
theorem mcs_3 (m : MW) : m.cs[3]? = some (.d (.int .i64 m.dest)) := rfl
noncomputable def TM1 : Tbl := tbl [(81, msg_Asks_F)]
theorem TM1_ok : TblOK Try.prog TM1 := tbl_ok (by
  simp only [List.mem_cons, List.not_mem_nil, or_false]
  rintro p (rfl)
  · exact msg_Asks)
instance : Has TM1 81 msg_Asks_F := ⟨rfl⟩

theorem msg_Asker : Pure Try.prog 77 asker_F := by
  refine con TM1_ok rfl rfl fun m _ => ⟨rfl, ?_⟩
  cases ha : m.asks <;> simp [cf77, Mg_av, -getElem?_pos, mcs_len, mcs_take, mcs_2, mcs_3, MW.asker, ha]
noncomputable abbrev msg_Asker_F := asker_F
noncomputable def TM2 : Tbl := tbl [(82, garlandref06_Asks_F)]
theorem TM2_ok : TblOK Try.prog TM2 := tbl_ok (by
  simp only [List.mem_cons, List.not_mem_nil, or_false]
  rintro p (rfl)
  · exact garlandref06_Asks)
instance : Has TM2 82 garlandref06_Asks_F := ⟨rfl⟩

theorem garlandref06_Asker : Pure Try.prog 63 asker_F := by
  refine con TM2_ok rfl rfl fun m _ => ⟨rfl, ?_⟩
  cases ha : m.asks <;> simp [cf63, Mg_av, -getElem?_pos, mcs_len, mcs_take, mcs_2, mcs_3, MW.asker, ha]
noncomputable abbrev garlandref06_Asker_F := asker_F
end Go.Proofs.Ytbeocehhclfbiaa.Lite
namespace Go.Proofs.Ytbeocehhclfbiaa.Lite
open Go
attribute [local simp] WL_of WL_nil WL_blk WL_skip WL_label WL_exit WL_goto WL_seq WL_block WL_cond WL_reg WL_ret WJ_nil WJ_ex WJ_gt WJ_rt WJ_exb WJ_gtb WJ_rtb WLO_nil WLO_call WO_mv WO_pick WO_new WO_box WO_ld WO_ldn WO_st WO_off WO_ixa WO_ixs WO_fld WO_fldn WO_ixv WO_ixvn WO_ixb WO_bin WO_eqb WO_isn WO_eqs WO_not WO_conv WO_mkf WO_bld WO_bls WO_sla WO_sls WO_sl0 WO_len WO_app WO_mnx WO_ext WO_nilc wants_none wants_some wantv_b wantv_t WLV_true WLV_false WLC_false WLB_true WLB_false evX_t evX_c evXs_nil evXs_cons look_put look_putN look_cons look_arg0 look_arg stepK binOpA intOp strOp evRes oneOf outs gc toDV AV.dat? I Bo av_s List.map List.append_nil getO putO AV.cellsOf bne WL_dreg WLP_nil WLP_call WP_mv WP_pick WP_new WP_box WP_ld WP_ldn WP_off WP_ixa WP_ixs WP_fld WP_fldn WP_ixv WP_ixvn WP_ixb WP_bin WP_eqb WP_isn WP_eqs WP_not WP_conv WP_mkf WP_bld WP_bls WP_sla WP_sls WP_sl0 WP_len WP_app WP_mnx WP_ext WP_nilc WLPV_true WLPV_false WLPC_false WLC_tells WLPC_tells padH onNm onEx List.getElem?_cons_zero List.getElem?_cons_succ List.getElem?_nil restrict AV.lows lay AV.isCell lowObj AObj.lows WJ_nm AV.lows.go WL_scope onGt_rt onGt_nm onGt_ex WL_sreg WP_st preSt eraseB List.set_cons_zero List.set_cons_succ

structure IW where
  key : List UInt8
  val : Int
  ver : Int
  gone : Bool
def IW.dats (x : IW) : List Dat := [.str x.key, .int .i64 x.val, .int .i64 x.ver, .bool x.gone]
def IW.cs (x : IW) : List AV := [.d (.str x.key), .d (.int .i64 x.val), .d (.int .i64 x.ver), .d (.bool x.gone)]
def It (x : IW) : DV := .g x.dats
theorem It_av (x : IW) : (It x).av = .agg x.cs := rfl
theorem IW.inj {x y : IW} (h : x.dats = y.dats) : x = y := by
  obtain ⟨⟩ := x
  obtain ⟨⟩ := y
  simp only [IW.dats, List.cons.injEq, Dat.int.injEq, Dat.bool.injEq, Dat.str.injEq, true_and, and_true] at h
  simp_all
theorem orcI {out : IW → List DV} (x : IW) : orcOf (fun x : IW => [It x]) (fun _ => True) out [It x] = some (out x) :=
  orcOf_eq (enc := fun x : IW => [It x]) (x := x) trivial (fun y h => by
    simp only [It, List.cons.injEq, DV.g.injEq, and_true] at h
    exact IW.inj h)
def keyB (s : List UInt8) : Bool := !(s == []) && decide (s.length ≤ 20)
def within (n : Int) : Bool := decide (0 ≤ n) && decide (n ≤ 1048576)
def IW.pair (x : IW) : Bool := keyB x.key && within x.val && within x.ver
noncomputable def pair_F := orcOf (fun x : IW => [It x]) (fun _ => True) (fun x => [Bo x.pair])
instance (s : List UInt8) (a b : Int) (g : Bool) : Tells pair_F [.agg [.d (.str s), .d (.int .i64 a), .d (.int .i64 b), .d (.bool g)]] (.d (.bool (IW.pair ⟨s, a, b, g⟩))) := ⟨[It ⟨s, a, b, g⟩], [Bo (IW.pair ⟨s, a, b, g⟩)], fun _ => rfl, orcI _, rfl, rfl, fun _ _ => rfl⟩
noncomputable def keyB_F := orcOf (fun s : List UInt8 => [.s (.str s)]) (fun _ => True) (fun s => [Bo (keyB s)])
instance (s : List UInt8) : Tells keyB_F [.d (.str s)] (.d (.bool (keyB s))) :=
  ⟨[.s (.str s)], [Bo (keyB s)], fun _ => rfl, orcOf_eq (enc := fun s : List UInt8 => [.s (.str s)]) trivial (fun y h => by simpa using h), rfl, rfl, fun _ _ => rfl⟩
noncomputable def within_F := orcOf (fun n : Int => [I n]) (fun _ => True) (fun n => [Bo (within n)])
instance (n : Int) : Tells within_F [.d (.int .i64 n)] (.d (.bool (within n))) :=
  ⟨[I n], [Bo (within n)], fun _ => rfl, orcOf_eq (enc := fun n : Int => [I n]) trivial (fun y h => by simpa [I] using h), rfl, rfl, fun _ _ => rfl⟩
theorem msg_key : Pure Try.prog 95 keyB_F := by
  refine con (T := tbl []) (tbl_ok (by simp)) rfl rfl fun s _ => ⟨rfl, ?_⟩
  simp [cf95, -getElem?_pos, keyB]
  all_goals (try (first | refine WLV_splitN (fun hs => ?_) (fun hs => ?_) | refine WLC_splitN (fun hs => ?_) (fun hs => ?_) | refine WLB_splitN (fun hs => ?_) (fun hs => ?_) | refine WLPV_splitN (fun hs => ?_) (fun hs => ?_) | refine WLPC_splitN (fun hs => ?_) (fun hs => ?_) | refine WLPV_split (fun hs => ?_) (fun hs => ?_) | refine WLPC_split (fun hs => ?_) (fun hs => ?_) | refine WLV_split (fun hs => ?_) (fun hs => ?_) | refine WLC_split (fun hs => ?_) (fun hs => ?_) | refine WLB_split (fun hs => ?_) (fun hs => ?_)))
  all_goals (try (have hs' := hs; simp at hs'))
  all_goals (try simp [*, -getElem?_pos])
  all_goals (try omega)
noncomputable abbrev msg_key_F := keyB_F
theorem msg_within : Pure Try.prog 100 within_F := by
  refine con (T := tbl []) (tbl_ok (by simp)) rfl rfl fun n _ => ⟨rfl, ?_⟩
  simp [cf100, -getElem?_pos, within]
  all_goals (try (first | refine WLV_splitN (fun hs => ?_) (fun hs => ?_) | refine WLC_splitN (fun hs => ?_) (fun hs => ?_) | refine WLB_splitN (fun hs => ?_) (fun hs => ?_) | refine WLPV_splitN (fun hs => ?_) (fun hs => ?_) | refine WLPC_splitN (fun hs => ?_) (fun hs => ?_) | refine WLPV_split (fun hs => ?_) (fun hs => ?_) | refine WLPC_split (fun hs => ?_) (fun hs => ?_) | refine WLV_split (fun hs => ?_) (fun hs => ?_) | refine WLC_split (fun hs => ?_) (fun hs => ?_) | refine WLB_split (fun hs => ?_) (fun hs => ?_)))
  all_goals (try (have hs' := hs; simp at hs'))
  all_goals (try simp [*, -getElem?_pos])
noncomputable abbrev msg_within_F := within_F
noncomputable def TM3 : Tbl := tbl [(95, msg_key_F), (100, msg_within_F)]
theorem TM3_ok : TblOK Try.prog TM3 := tbl_ok (by
  simp only [List.mem_cons, List.not_mem_nil, or_false]
  rintro p (rfl | rfl)
  · exact msg_key
  · exact msg_within)
instance : Has TM3 95 msg_key_F := ⟨rfl⟩
instance : Has TM3 100 msg_within_F := ⟨rfl⟩

theorem msg_Pair : Pure Try.prog 94 pair_F := by
  refine con TM3_ok rfl rfl fun x _ => ⟨rfl, ?_⟩
  simp [cf94, It_av, IW.cs, -getElem?_pos, IW.pair]
  all_goals (try (first | refine WLV_splitN (fun hs => ?_) (fun hs => ?_) | refine WLC_splitN (fun hs => ?_) (fun hs => ?_) | refine WLB_splitN (fun hs => ?_) (fun hs => ?_) | refine WLPV_splitN (fun hs => ?_) (fun hs => ?_) | refine WLPC_splitN (fun hs => ?_) (fun hs => ?_) | refine WLPV_split (fun hs => ?_) (fun hs => ?_) | refine WLPC_split (fun hs => ?_) (fun hs => ?_) | refine WLV_split (fun hs => ?_) (fun hs => ?_) | refine WLC_split (fun hs => ?_) (fun hs => ?_) | refine WLB_split (fun hs => ?_) (fun hs => ?_)))
  all_goals (try (have hs' := hs; simp at hs'))
  all_goals (try simp [*, -getElem?_pos])
  all_goals (try (first | refine WLV_splitN (fun hs => ?_) (fun hs => ?_) | refine WLC_splitN (fun hs => ?_) (fun hs => ?_) | refine WLB_splitN (fun hs => ?_) (fun hs => ?_) | refine WLPV_splitN (fun hs => ?_) (fun hs => ?_) | refine WLPC_splitN (fun hs => ?_) (fun hs => ?_) | refine WLPV_split (fun hs => ?_) (fun hs => ?_) | refine WLPC_split (fun hs => ?_) (fun hs => ?_) | refine WLV_split (fun hs => ?_) (fun hs => ?_) | refine WLC_split (fun hs => ?_) (fun hs => ?_) | refine WLB_split (fun hs => ?_) (fun hs => ?_)))
  all_goals (try (have hs' := hs; simp at hs'))
  all_goals (try simp [*, -getElem?_pos])
noncomputable abbrev msg_Pair_F := pair_F
theorem keyB_len (s : List UInt8) : keyB s = (decide (1 ≤ (s.length : Int)) && decide ((s.length : Int) ≤ 20)) := by
  unfold keyB
  cases s with
  | nil => rfl
  | cons a s => rw [Bool.eq_iff_iff]; simp; omega
theorem garlandref06_Pair : Pure Try.prog 86 pair_F := by
  refine con (T := tbl []) (tbl_ok (by simp)) rfl rfl fun x _ => ⟨rfl, ?_⟩
  simp [cf86, It_av, IW.cs, -getElem?_pos, IW.pair]
  all_goals (try (first | refine WLV_splitN (fun hs => ?_) (fun hs => ?_) | refine WLC_splitN (fun hs => ?_) (fun hs => ?_) | refine WLB_splitN (fun hs => ?_) (fun hs => ?_) | refine WLPV_splitN (fun hs => ?_) (fun hs => ?_) | refine WLPC_splitN (fun hs => ?_) (fun hs => ?_) | refine WLPV_split (fun hs => ?_) (fun hs => ?_) | refine WLPC_split (fun hs => ?_) (fun hs => ?_) | refine WLV_split (fun hs => ?_) (fun hs => ?_) | refine WLC_split (fun hs => ?_) (fun hs => ?_) | refine WLB_split (fun hs => ?_) (fun hs => ?_)))
  all_goals (try (have hs' := hs; simp at hs'))
  all_goals (try simp [*, -getElem?_pos])
  all_goals (try (first | refine WLV_splitN (fun hs => ?_) (fun hs => ?_) | refine WLC_splitN (fun hs => ?_) (fun hs => ?_) | refine WLB_splitN (fun hs => ?_) (fun hs => ?_) | refine WLPV_splitN (fun hs => ?_) (fun hs => ?_) | refine WLPC_splitN (fun hs => ?_) (fun hs => ?_) | refine WLPV_split (fun hs => ?_) (fun hs => ?_) | refine WLPC_split (fun hs => ?_) (fun hs => ?_) | refine WLV_split (fun hs => ?_) (fun hs => ?_) | refine WLC_split (fun hs => ?_) (fun hs => ?_) | refine WLB_split (fun hs => ?_) (fun hs => ?_)))
  all_goals (try (have hs' := hs; simp at hs'))
  all_goals (try simp [*, -getElem?_pos])
  all_goals (try (first | refine WLV_splitN (fun hs => ?_) (fun hs => ?_) | refine WLC_splitN (fun hs => ?_) (fun hs => ?_) | refine WLB_splitN (fun hs => ?_) (fun hs => ?_) | refine WLPV_splitN (fun hs => ?_) (fun hs => ?_) | refine WLPC_splitN (fun hs => ?_) (fun hs => ?_) | refine WLPV_split (fun hs => ?_) (fun hs => ?_) | refine WLPC_split (fun hs => ?_) (fun hs => ?_) | refine WLV_split (fun hs => ?_) (fun hs => ?_) | refine WLC_split (fun hs => ?_) (fun hs => ?_) | refine WLB_split (fun hs => ?_) (fun hs => ?_)))
  all_goals (try (have hs' := hs; simp at hs'))
  all_goals (try simp [*, -getElem?_pos])
  all_goals (try (first | refine WLV_splitN (fun hs => ?_) (fun hs => ?_) | refine WLC_splitN (fun hs => ?_) (fun hs => ?_) | refine WLB_splitN (fun hs => ?_) (fun hs => ?_) | refine WLPV_splitN (fun hs => ?_) (fun hs => ?_) | refine WLPC_splitN (fun hs => ?_) (fun hs => ?_) | refine WLPV_split (fun hs => ?_) (fun hs => ?_) | refine WLPC_split (fun hs => ?_) (fun hs => ?_) | refine WLV_split (fun hs => ?_) (fun hs => ?_) | refine WLC_split (fun hs => ?_) (fun hs => ?_) | refine WLB_split (fun hs => ?_) (fun hs => ?_)))
  all_goals (try (have hs' := hs; simp at hs'))
  all_goals (try simp [*, -getElem?_pos])
  all_goals (try (first | refine WLV_splitN (fun hs => ?_) (fun hs => ?_) | refine WLC_splitN (fun hs => ?_) (fun hs => ?_) | refine WLB_splitN (fun hs => ?_) (fun hs => ?_) | refine WLPV_splitN (fun hs => ?_) (fun hs => ?_) | refine WLPC_splitN (fun hs => ?_) (fun hs => ?_) | refine WLPV_split (fun hs => ?_) (fun hs => ?_) | refine WLPC_split (fun hs => ?_) (fun hs => ?_) | refine WLV_split (fun hs => ?_) (fun hs => ?_) | refine WLC_split (fun hs => ?_) (fun hs => ?_) | refine WLB_split (fun hs => ?_) (fun hs => ?_)))
  all_goals (try (have hs' := hs; simp at hs'))
  all_goals (try simp [*, -getElem?_pos])
  all_goals (try (first | refine WLV_splitN (fun hs => ?_) (fun hs => ?_) | refine WLC_splitN (fun hs => ?_) (fun hs => ?_) | refine WLB_splitN (fun hs => ?_) (fun hs => ?_) | refine WLPV_splitN (fun hs => ?_) (fun hs => ?_) | refine WLPC_splitN (fun hs => ?_) (fun hs => ?_) | refine WLPV_split (fun hs => ?_) (fun hs => ?_) | refine WLPC_split (fun hs => ?_) (fun hs => ?_) | refine WLV_split (fun hs => ?_) (fun hs => ?_) | refine WLC_split (fun hs => ?_) (fun hs => ?_) | refine WLB_split (fun hs => ?_) (fun hs => ?_)))
  all_goals (try (have hs' := hs; simp at hs'))
  all_goals (try simp [*, -getElem?_pos])
  all_goals (try simp [keyB_len, within, *])
  all_goals (try omega)
noncomputable abbrev garlandref06_Pair_F := pair_F
end Go.Proofs.Ytbeocehhclfbiaa.Lite
namespace Go.Proofs.Ytbeocehhclfbiaa.Lite
open Go
attribute [local simp] WL_of WL_nil WL_blk WL_skip WL_label WL_exit WL_goto WL_seq WL_block WL_cond WL_reg WL_ret WJ_nil WJ_ex WJ_gt WJ_rt WJ_exb WJ_gtb WJ_rtb WLO_nil WLO_call WO_mv WO_pick WO_new WO_box WO_ld WO_ldn WO_st WO_off WO_ixa WO_ixs WO_fld WO_fldn WO_ixv WO_ixvn WO_ixb WO_bin WO_eqb WO_isn WO_eqs WO_not WO_conv WO_mkf WO_bld WO_bls WO_sla WO_sls WO_sl0 WO_len WO_app WO_mnx WO_ext WO_nilc wants_none wants_some wantv_b wantv_t WLV_true WLV_false WLC_false WLB_true WLB_false evX_t evX_c evXs_nil evXs_cons look_put look_putN look_cons look_arg0 look_arg stepK binOpA intOp strOp evRes oneOf outs gc toDV AV.dat? I Bo av_s List.map List.append_nil getO putO AV.cellsOf bne WL_dreg WLP_nil WLP_call WP_mv WP_pick WP_new WP_box WP_ld WP_ldn WP_off WP_ixa WP_ixs WP_fld WP_fldn WP_ixv WP_ixvn WP_ixb WP_bin WP_eqb WP_isn WP_eqs WP_not WP_conv WP_mkf WP_bld WP_bls WP_sla WP_sls WP_sl0 WP_len WP_app WP_mnx WP_ext WP_nilc WLPV_true WLPV_false WLPC_false WLC_tells WLPC_tells padH onNm onEx List.getElem?_cons_zero List.getElem?_cons_succ List.getElem?_nil restrict AV.lows lay AV.isCell lowObj AObj.lows WJ_nm AV.lows.go WL_scope onGt_rt onGt_nm onGt_ex WL_sreg WP_st preSt eraseB List.set_cons_zero List.set_cons_succ

def MW.zero : MW := ⟨0, 0, 0, 0, 0, false, false, 0, 0, [], [], 0, 0, false, 0, by decide⟩
def MW.tell (m : MW) : MW := bif m.asks then { MW.zero with kind := m.kind + 6, call := m.call, src := m.dest, dest := m.src } else MW.zero
noncomputable def tell_F := orcOf (fun m : MW => [Mg m]) (fun _ => True) (fun m => [Mg m.tell])
instance (m : MW) : Tells tell_F [.agg m.cs] (.agg m.tell.cs) := ⟨[Mg m], [Mg m.tell], toM m, orcM m, rfl, rfl, fun _ _ => rfl⟩
theorem wrap8 {n : Int} (h : (decide (n > 0) && decide (n ≤ 6)) = true) : IntKind.u8.wrap (n + 6) = n + 6 := by
  simp at h
  simp [IntKind.wrap, IntKind.bits, IntKind.signed]; omega
theorem mcs_0 (m : MW) : m.cs[0]? = some (.d (.int .u8 m.kind)) := rfl
theorem mcs_1 (m : MW) : m.cs[1]? = some (.d (.int .i64 m.call)) := rfl
theorem msg_Tell : Pure Try.prog 56 tell_F := by
  refine con TM1_ok rfl rfl fun m _ => ⟨rfl, ?_⟩
  cases ha : m.asks with
  | false =>
    simp [cf56, Mg_av, -getElem?_pos, mcs_len, mcs_take, MW.tell, ha]
    exact ⟨_, rfl, rfl⟩
  | true =>
    have hw := wrap8 ha
    simp [cf56, Mg_av, -getElem?_pos, mcs_len, mcs_take, mcs_0, mcs_1, mcs_2, mcs_3, MW.tell, ha, hw, fillA]
    exact ⟨_, rfl, rfl⟩
noncomputable abbrev msg_Tell_F := tell_F
theorem garlandref06_Tell : Pure Try.prog 57 tell_F := by
  refine con TM2_ok rfl rfl fun m _ => ⟨rfl, ?_⟩
  cases ha : m.asks with
  | false =>
    simp [cf57, Mg_av, -getElem?_pos, mcs_len, mcs_take, MW.tell, ha, fillA]
    exact ⟨_, rfl, rfl⟩
  | true =>
    have hw := wrap8 ha
    simp [cf57, Mg_av, -getElem?_pos, mcs_len, mcs_take, mcs_0, mcs_1, mcs_2, mcs_3, MW.tell, ha, hw, fillA]
    exact ⟨_, rfl, rfl⟩
noncomputable abbrev garlandref06_Tell_F := tell_F
end Go.Proofs.Ytbeocehhclfbiaa.Lite
namespace Go.Proofs.Ytbeocehhclfbiaa.Lite
open Go
attribute [local simp] WL_of WL_nil WL_blk WL_skip WL_label WL_exit WL_goto WL_seq WL_block WL_cond WL_reg WL_ret WJ_nil WJ_ex WJ_gt WJ_rt WJ_exb WJ_gtb WJ_rtb WLO_nil WLO_call WO_mv WO_pick WO_new WO_box WO_ld WO_ldn WO_st WO_off WO_ixa WO_ixs WO_fld WO_fldn WO_ixv WO_ixvn WO_ixb WO_bin WO_eqb WO_isn WO_eqs WO_not WO_conv WO_mkf WO_bld WO_bls WO_sla WO_sls WO_sl0 WO_len WO_app WO_mnx WO_ext WO_nilc wants_none wants_some wantv_b wantv_t WLV_true WLV_false WLC_false WLB_true WLB_false evX_t evX_c evXs_nil evXs_cons look_put look_putN look_cons look_arg0 look_arg stepK binOpA intOp strOp evRes oneOf outs gc toDV AV.dat? I Bo av_s List.map List.append_nil getO putO AV.cellsOf bne WL_dreg WLP_nil WLP_call WP_mv WP_pick WP_new WP_box WP_ld WP_ldn WP_off WP_ixa WP_ixs WP_fld WP_fldn WP_ixv WP_ixvn WP_ixb WP_bin WP_eqb WP_isn WP_eqs WP_not WP_conv WP_mkf WP_bld WP_bls WP_sla WP_sls WP_sl0 WP_len WP_app WP_mnx WP_ext WP_nilc WLPV_true WLPV_false WLPC_false WLC_tells WLPC_tells padH onNm onEx List.getElem?_cons_zero List.getElem?_cons_succ List.getElem?_nil restrict AV.lows lay AV.isCell lowObj AObj.lows WJ_nm AV.lows.go WL_scope onGt_rt onGt_nm onGt_ex WL_sreg WP_st preSt eraseB List.set_cons_zero List.set_cons_succ

theorem toSI (l : List Int) (n : Int) (h : Heap) : toDVs h [.d (.sl (rowsI l)), .d (.int .i64 n)] = some [SI l, I n] := rfl
theorem orcSI {out : List Int × Int → List DV} {l : List Int} {n : Int} (h : l.length < 9223372036854775808) : orcOf (fun p : List Int × Int => [SI p.1, I p.2]) (fun p => p.1.length < 9223372036854775808) out [SI l, I n] = some (out (l, n)) :=
  orcOf_eq (enc := fun p : List Int × Int => [SI p.1, I p.2]) (x := (l, n)) h (fun y h => by
    simp only [I, SI, List.cons.injEq, DV.s.injEq, Dat.int.injEq, Dat.sl.injEq, true_and, and_true] at h
    exact Prod.ext (rowsI_inj h.1) h.2)

def idxF (n : Int) : Nat → List Int → Int
  | _, [] => -1
  | i, x :: l => bif n == x then i else idxF n (i + 1) l
noncomputable def idx_F := orcOf (fun p : List Int × Int => [SI p.1, I p.2]) (fun p => p.1.length < 9223372036854775808) (fun p => [I (idxF p.2 0 p.1)])
instance (l : List Int) (n : Int) [h : Fact (l.length < 9223372036854775808)] : Tells idx_F [.d (.sl (rowsI l)), .d (.int .i64 n)] (.d (.int .i64 (idxF n 0 l))) := ⟨_, [I (idxF n 0 l)], toSI l n, orcSI h.out, rfl, rfl, fun _ _ => rfl⟩
def L104 : CCode := (.loop [0, 1, 7, 8] (.seq (.reg (⟨(some 9), .bin .lss (.t 8) (.t 7), none⟩ ::
    []))
  (.seq (.cond (.t 9) .skip (.exit 0))
  (.seq (.block 1 (.seq (.reg (⟨(some 10), .mv (.t 8), none⟩ ::
    ⟨(some 5), .mv (.t 10), none⟩ ::
    []))
  (.seq (.reg (⟨(some 11), .mv (.t 1), none⟩ ::
    ⟨(some 12), .mv (.t 0), none⟩ ::
    ⟨(some 13), .mv (.t 5), none⟩ ::
    ⟨(some 14), .ixs 1 (.t 12) (.t 13), none⟩ ::
    ⟨(some 15), .ld (.t 14), none⟩ ::
    ⟨(some 16), .bin .eql (.t 11) (.t 15), none⟩ ::
    []))
  (.cond (.t 16) (.seq (.reg (⟨(some 17), .mv (.t 5), none⟩ ::
    ⟨(some 4), .mv (.t 17), none⟩ ::
    []))
  .ret) .skip))))
  (.reg (⟨(some 18), .bin .add (.t 8) (.c (.d (.int .i64 1))), none⟩ ::
    ⟨(some 8), .mv (.t 18), none⟩ ::
    []))))))
theorem L104_eq : L104 = .loop [0, 1, 7, 8] (.seq (.reg (⟨(some 9), .bin .lss (.t 8) (.t 7), none⟩ ::
    []))
  (.seq (.cond (.t 9) .skip (.exit 0))
  (.seq (.block 1 (.seq (.reg (⟨(some 10), .mv (.t 8), none⟩ ::
    ⟨(some 5), .mv (.t 10), none⟩ ::
    []))
  (.seq (.reg (⟨(some 11), .mv (.t 1), none⟩ ::
    ⟨(some 12), .mv (.t 0), none⟩ ::
    ⟨(some 13), .mv (.t 5), none⟩ ::
    ⟨(some 14), .ixs 1 (.t 12) (.t 13), none⟩ ::
    ⟨(some 15), .ld (.t 14), none⟩ ::
    ⟨(some 16), .bin .eql (.t 11) (.t 15), none⟩ ::
    []))
  (.cond (.t 16) (.seq (.reg (⟨(some 17), .mv (.t 5), none⟩ ::
    ⟨(some 4), .mv (.t 17), none⟩ ::
    []))
  .ret) .skip))))
  (.reg (⟨(some 18), .bin .add (.t 8) (.c (.d (.int .i64 1))), none⟩ ::
    ⟨(some 8), .mv (.t 18), none⟩ ::
    []))))) := rfl
theorem idx_loop (l : List Int) (n : Int) (hl : l.length < 9223372036854775808) : ∀ (k i : Nat), l.length - i = k → i ≤ l.length → ∀ (env : Env), look env 0 = some (vsI l) → look env 1 = some (.d (.int .i64 n)) → look env 7 = some (.d (.int .i64 l.length)) → look env 8 = some (.d (.int .i64 i)) →
    ∀ (Q : Ex → Env → St → Prop), (idxF n i (l.drop i) = -1 → ∀ env', Q (.ex 0) env' ⟨[], []⟩) → (∀ env', look env' 4 = some (.d (.int .i64 (idxF n i (l.drop i)))) → Q .rt env' ⟨[], []⟩) → W (tbl []) ⟨[], 0⟩ L104 env ⟨[], []⟩ Q := by
  intro k
  induction k with
  | zero =>
    intro i hk hi env h0 h1 h7 h8 Q hQ1 hQ2
    have hlt : ¬ i < l.length := by omega
    rw [L104_eq, W_loop]
    simp [-getElem?_pos, h0, h1, h7, h8, hlt]
    exact hQ1 (by rw [List.drop_eq_nil_of_le (by omega)]; rfl) _
  | succ k ih =>
    intro i hk hi env h0 h1 h7 h8 Q hQ1 hQ2
    have hlt : i < l.length := by omega
    obtain ⟨m, hn⟩ : ∃ m, l[i]? = some m := ⟨_, List.getElem?_eq_getElem hlt⟩
    have hd : l.drop i = m :: l.drop (i + 1) := by rw [List.drop_eq_getElem_cons hlt]; congr 1; exact (List.getElem?_eq_some_iff.1 hn).2
    have hw := wrapN1 i (by omega)
    rw [L104_eq, W_loop]
    simp [-getElem?_pos, h0, h1, h7, h8, hlt, rowsI_get, hn, -Int.natCast_add]
    all_goals (try (first | refine WLV_splitN (fun hs => ?_) (fun hs => ?_) | refine WLC_splitN (fun hs => ?_) (fun hs => ?_) | refine WLB_splitN (fun hs => ?_) (fun hs => ?_) | refine WLPV_splitN (fun hs => ?_) (fun hs => ?_) | refine WLPC_splitN (fun hs => ?_) (fun hs => ?_) | refine WLPV_split (fun hs => ?_) (fun hs => ?_) | refine WLPC_split (fun hs => ?_) (fun hs => ?_) | refine WLV_split (fun hs => ?_) (fun hs => ?_) | refine WLC_split (fun hs => ?_) (fun hs => ?_) | refine WLB_split (fun hs => ?_) (fun hs => ?_)))
    all_goals (try (have hs' := hs; simp at hs'))
    all_goals (try simp [*, -getElem?_pos, h0, h1, h7, h8, -Int.natCast_add])
    · refine hQ2 _ ?_
      rw [hd]; simp [*, -getElem?_pos, idxF]
    · refine (WL_of (c := L104)).1 (ih (i + 1) (by omega) (by omega) _ ?_ ?_ ?_ ?_ Q (fun h => hQ1 ?_) (fun env' h => hQ2 env' ?_))
      · simp [-getElem?_pos, h0]
      · simp [-getElem?_pos, h1]
      · simp [-getElem?_pos, h7]
      · simp [-getElem?_pos, hw, -Int.natCast_add]
      · rw [hd]; simp [idxF, *]
      · rw [h, hd]; simp [idxF, *]
theorem slices_Index : Pure Try.prog 104 idx_F := by
  refine con (T := tbl []) (tbl_ok (by simp)) rfl rfl fun ⟨l, n⟩ hl => ⟨rfl, ?_⟩
  simp [cf104, -getElem?_pos, SI, stepK.lenA, rowsI_length]
  rw [WL_code]
  refine idx_loop l n hl l.length 0 (by omega) (by omega) _ ?_ ?_ ?_ ?_ _ (fun h env' => ?_) (fun env' h => ?_)
  all_goals (try (simp [-getElem?_pos]; done))
  · simp at h; simp [-getElem?_pos, h]
  · simp at h; simp [-getElem?_pos, h]
noncomputable abbrev slices_Index_F := idx_F
theorem idx_mem (n : Int) : ∀ (l : List Int) (i : Nat), decide (0 ≤ idxF n i l) = decide (n ∈ l)
  | [], i => by simp [idxF]
  | x :: l, i => by
    unfold idxF
    cases h : n == x with
    | true =>
      have : n = x := by simpa using h
      subst this
      simp
    | false =>
      have : ¬ n = x := by simpa using h
      simp only [cond_false, idx_mem n l (i + 1), List.mem_cons, this, false_or]
noncomputable def mem_F := orcOf (fun p : List Int × Int => [SI p.1, I p.2]) (fun p => p.1.length < 9223372036854775808) (fun p => [Bo (decide (p.2 ∈ p.1))])
instance (l : List Int) (n : Int) [h : Fact (l.length < 9223372036854775808)] : Tells mem_F [.d (.sl (rowsI l)), .d (.int .i64 n)] (.d (.bool (decide (n ∈ l)))) := ⟨_, [Bo (decide (n ∈ l))], toSI l n, orcSI h.out, rfl, rfl, fun _ _ => rfl⟩
noncomputable abbrev slices_Index__int_int__F := idx_F
theorem slices_Index__int_int_ : Pure Try.prog 104 idx_F := slices_Index
noncomputable def TSI : Tbl := tbl [(104, slices_Index_F)]
theorem TSI_ok : TblOK Try.prog TSI := tbl_ok (by
  simp only [List.mem_cons, List.not_mem_nil, or_false]
  rintro p (rfl)
  · exact slices_Index)
instance : Has TSI 104 slices_Index_F := ⟨rfl⟩

theorem slices_Contains : Pure Try.prog 103 mem_F := by
  refine con TSI_ok rfl rfl fun ⟨l, n⟩ hl => ⟨rfl, ?_⟩
  haveI : Fact (l.length < 9223372036854775808) := ⟨hl⟩
  simp [cf103, -getElem?_pos, SI]
  have := idx_mem n l 0
  simpa using this
noncomputable abbrev slices_Contains_F := mem_F

noncomputable def eqL_F := orcOf (fun p : List Int × List Int => [SI p.1, SI p.2]) (fun p => p.1.length < 9223372036854775808 ∧ p.2.length < 9223372036854775808) (fun p => [Bo (p.1 == p.2)])
instance (l k : List Int) [h : Fact (l.length < 9223372036854775808)] [h2 : Fact (k.length < 9223372036854775808)] : Tells eqL_F [.d (.sl (rowsI l)), .d (.sl (rowsI k))] (.d (.bool (l == k))) :=
  ⟨[SI l, SI k], [Bo (l == k)], fun _ => rfl, orcOf_eq (enc := fun p : List Int × List Int => [SI p.1, SI p.2]) (x := (l, k)) ⟨h.out, h2.out⟩ (fun y h => by
    simp only [SI, List.cons.injEq, DV.s.injEq, Dat.sl.injEq, and_true] at h
    exact Prod.ext (rowsI_inj h.1) (rowsI_inj h.2)), rfl, rfl, fun _ _ => rfl⟩
def L97 : CCode := (.loop [0, 1, 12, 13] (.seq (.reg (⟨(some 14), .bin .lss (.t 13) (.t 12), none⟩ ::
    []))
  (.seq (.cond (.t 14) .skip (.exit 0))
  (.seq (.block 1 (.seq (.reg (⟨(some 15), .mv (.t 13), none⟩ ::
    ⟨(some 5), .mv (.t 15), none⟩ ::
    []))
  (.seq (.dreg (⟨(some 16), .mv (.t 0), none⟩ ::
    ⟨(some 17), .mv (.t 5), none⟩ ::
    ⟨(some 18), .ixs 1 (.t 16) (.t 17), none⟩ ::
    ⟨(some 19), .ld (.t 18), none⟩ ::
    ⟨(some 20), .mv (.t 1), none⟩ ::
    ⟨(some 21), .mv (.t 5), none⟩ ::
    ⟨(some 22), .ixs 1 (.t 20) (.t 21), none⟩ ::
    ⟨(some 23), .ld (.t 22), none⟩ ::
    ⟨(some 24), .bin .neq (.t 19) (.t 23), none⟩ ::
    []) ([]))
  (.cond (.t 24) (.seq (.reg (⟨(some 4), .mv (.c (.d (.bool false))), none⟩ ::
    []))
  .ret) .skip))))
  (.reg (⟨(some 25), .bin .add (.t 13) (.c (.d (.int .i64 1))), none⟩ ::
    ⟨(some 13), .mv (.t 25), none⟩ ::
    []))))))
theorem L97_eq : L97 = .loop [0, 1, 12, 13] (.seq (.reg (⟨(some 14), .bin .lss (.t 13) (.t 12), none⟩ ::
    []))
  (.seq (.cond (.t 14) .skip (.exit 0))
  (.seq (.block 1 (.seq (.reg (⟨(some 15), .mv (.t 13), none⟩ ::
    ⟨(some 5), .mv (.t 15), none⟩ ::
    []))
  (.seq (.dreg (⟨(some 16), .mv (.t 0), none⟩ ::
    ⟨(some 17), .mv (.t 5), none⟩ ::
    ⟨(some 18), .ixs 1 (.t 16) (.t 17), none⟩ ::
    ⟨(some 19), .ld (.t 18), none⟩ ::
    ⟨(some 20), .mv (.t 1), none⟩ ::
    ⟨(some 21), .mv (.t 5), none⟩ ::
    ⟨(some 22), .ixs 1 (.t 20) (.t 21), none⟩ ::
    ⟨(some 23), .ld (.t 22), none⟩ ::
    ⟨(some 24), .bin .neq (.t 19) (.t 23), none⟩ ::
    []) ([]))
  (.cond (.t 24) (.seq (.reg (⟨(some 4), .mv (.c (.d (.bool false))), none⟩ ::
    []))
  .ret) .skip))))
  (.reg (⟨(some 25), .bin .add (.t 13) (.c (.d (.int .i64 1))), none⟩ ::
    ⟨(some 13), .mv (.t 25), none⟩ ::
    []))))) := rfl
theorem eq_loop (l r : List Int) (hl : l.length < 9223372036854775808) (hlr : l.length = r.length) : ∀ (k i : Nat), l.length - i = k → i ≤ l.length → ∀ (env : Env), look env 0 = some (vsI l) → look env 1 = some (vsI r) → look env 12 = some (.d (.int .i64 l.length)) → look env 13 = some (.d (.int .i64 i)) →
    ∀ (Q : Ex → Env → St → Prop), (l.drop i = r.drop i → ∀ env', Q (.ex 0) env' ⟨[], []⟩) → (l.drop i ≠ r.drop i → ∀ env' h', look env' 4 = some (.d (.bool false)) → Q .rt env' ⟨h', []⟩) → W (tbl []) ⟨[], 0⟩ L97 env ⟨[], []⟩ Q := by
  intro k
  induction k with
  | zero =>
    intro i hk hi env h0 h1 h12 h13 Q hQ1 hQ2
    have hlt : ¬ i < l.length := by omega
    rw [L97_eq, W_loop]
    simp [-getElem?_pos, h0, h1, h12, h13, hlt]
    exact hQ1 (by rw [List.drop_eq_nil_of_le (by omega), List.drop_eq_nil_of_le (by omega)]) _
  | succ k ih =>
    intro i hk hi env h0 h1 h12 h13 Q hQ1 hQ2
    have hlt : i < l.length := by omega
    obtain ⟨m, hn⟩ : ∃ m, l[i]? = some m := ⟨_, List.getElem?_eq_getElem hlt⟩
    obtain ⟨m2, hn2⟩ : ∃ m, r[i]? = some m := ⟨_, List.getElem?_eq_getElem (by omega)⟩
    have hd : l.drop i = m :: l.drop (i + 1) := by rw [List.drop_eq_getElem_cons hlt]; congr 1; exact (List.getElem?_eq_some_iff.1 hn).2
    have hd2 : r.drop i = m2 :: r.drop (i + 1) := by rw [List.drop_eq_getElem_cons (by omega)]; congr 1; exact (List.getElem?_eq_some_iff.1 hn2).2
    have hw := wrapN1 i (by omega)
    rw [L97_eq, W_loop]
    simp [-getElem?_pos, h0, h1, h12, h13, hlt, rowsI_get, hn, hn2, -Int.natCast_add]
    all_goals (try (first | refine WLV_splitN (fun hs => ?_) (fun hs => ?_) | refine WLC_splitN (fun hs => ?_) (fun hs => ?_) | refine WLB_splitN (fun hs => ?_) (fun hs => ?_) | refine WLPV_splitN (fun hs => ?_) (fun hs => ?_) | refine WLPC_splitN (fun hs => ?_) (fun hs => ?_) | refine WLPV_split (fun hs => ?_) (fun hs => ?_) | refine WLPC_split (fun hs => ?_) (fun hs => ?_) | refine WLV_split (fun hs => ?_) (fun hs => ?_) | refine WLC_split (fun hs => ?_) (fun hs => ?_) | refine WLB_split (fun hs => ?_) (fun hs => ?_)))
    all_goals (try (have hs' := hs; simp at hs'))
    all_goals (try simp [*, -getElem?_pos, h0, h1, h12, h13, -Int.natCast_add])
    all_goals first
      | (refine hQ2 (by rw [hd, hd2]; simp [*]) _ _ ?_; simp [-getElem?_pos]; done)
      | (refine (WL_of (c := L97)).1 (ih (i + 1) (by omega) (by omega) _ ?_ ?_ ?_ ?_ Q (fun h => hQ1 ?_) (fun h => hQ2 ?_))
         · simp [-getElem?_pos, h0]
         · simp [-getElem?_pos, h1]
         · simp [-getElem?_pos, h12, hlr]
         · simp [-getElem?_pos, hw, -Int.natCast_add]
         · rw [hd, hd2, h]; simp [*]
         · rw [hd, hd2]; simp [*])
theorem slices_Equal : Pure Try.prog 97 eqL_F := by
  refine con (T := tbl []) (tbl_ok (by simp)) rfl rfl fun ⟨l, r⟩ hl => ⟨rfl, ?_⟩
  by_cases hlr : l.length = r.length
  · simp [cf97, -getElem?_pos, SI, stepK.lenA, rowsI_length, hlr]
    rw [WL_code]
    refine eq_loop l r hl.1 hlr l.length 0 (by omega) (by omega) _ ?_ ?_ ?_ ?_ _ (fun h env' => ?_) (fun h env' h' h4 => ?_)
    all_goals (try (simp [-getElem?_pos, hlr]; done))
    · simp at h; subst h; simp [-getElem?_pos]
    · have e : (l == r) = false := by rw [beq_eq_false_iff_ne]; simpa using h
      simp [-getElem?_pos, h4, e]
  · have e : ((l.length : Int) == (r.length : Int)) = false := by rw [beq_eq_false_iff_ne]; omega
    have e2 : (l == r) = false := by rw [beq_eq_false_iff_ne]; rintro rfl; exact hlr rfl
    simp [cf97, -getElem?_pos, SI, stepK.lenA, rowsI_length, e, e2]
noncomputable abbrev slices_Equal_F := eqL_F
end Go.Proofs.Ytbeocehhclfbiaa.Lite
namespace Go.Proofs.Ytbeocehhclfbiaa.Lite
open Go
attribute [local simp] WL_of WL_nil WL_blk WL_skip WL_label WL_exit WL_goto WL_seq WL_block WL_cond WL_reg WL_ret WJ_nil WJ_ex WJ_gt WJ_rt WJ_exb WJ_gtb WJ_rtb WLO_nil WLO_call WO_mv WO_pick WO_new WO_box WO_ld WO_ldn WO_st WO_off WO_ixa WO_ixs WO_fld WO_fldn WO_ixv WO_ixvn WO_ixb WO_bin WO_eqb WO_isn WO_eqs WO_not WO_conv WO_mkf WO_bld WO_bls WO_sla WO_sls WO_sl0 WO_len WO_app WO_mnx WO_ext WO_nilc wants_none wants_some wantv_b wantv_t WLV_true WLV_false WLC_false WLB_true WLB_false evX_t evX_c evXs_nil evXs_cons look_put look_putN look_cons look_arg0 look_arg stepK binOpA intOp strOp evRes oneOf outs gc toDV AV.dat? I Bo av_s List.map List.append_nil getO putO AV.cellsOf bne WL_dreg WLP_nil WLP_call WP_mv WP_pick WP_new WP_box WP_ld WP_ldn WP_off WP_ixa WP_ixs WP_fld WP_fldn WP_ixv WP_ixvn WP_ixb WP_bin WP_eqb WP_isn WP_eqs WP_not WP_conv WP_mkf WP_bld WP_bls WP_sla WP_sls WP_sl0 WP_len WP_app WP_mnx WP_ext WP_nilc WLPV_true WLPV_false WLPC_false WLC_tells WLPC_tells padH onNm onEx List.getElem?_cons_zero List.getElem?_cons_succ List.getElem?_nil restrict AV.lows lay AV.isCell lowObj AObj.lows WJ_nm AV.lows.go WL_scope onGt_rt onGt_nm onGt_ex WL_sreg WP_st preSt eraseB List.set_cons_zero List.set_cons_succ

def lok (src : Int) : List Int → List Int → Bool
  | _, [] => true
  | pre, n :: l => (isPlace n && !(n == src) && !decide (n ∈ pre)) && lok src (pre ++ [n]) l
def listOk (l : List Int) (src : Int) : Bool := lok src [] l && decide (l.length ≤ 3)
noncomputable def listOk_F := orcOf (fun p : List Int × Int => [SI p.1, I p.2]) (fun p => p.1.length < 9223372036854775808) (fun p => [Bo (listOk p.1 p.2)])
instance (l : List Int) (n : Int) [h : Fact (l.length < 9223372036854775808)] : Tells listOk_F [.d (.sl (rowsI l)), .d (.int .i64 n)] (.d (.bool (listOk l n))) := ⟨_, [Bo (listOk l n)], toSI l n, orcSI h.out, rfl, rfl, fun _ _ => rfl⟩
theorem rowsI_take (l : List Int) (n : Nat) : (rowsI l).take n = rowsI (l.take n) := by simp [rowsI, List.map_take]
theorem take_snoc {l : List Int} {i : Nat} {n : Int} (h : l[i]? = some n) : l.take (i + 1) = l.take i ++ [n] := by rw [List.take_add_one, h]; rfl

noncomputable def TML : Tbl := tbl [(103, slices_Contains_F), (76, msg_place_F)]
theorem TML_ok : TblOK Try.prog TML := tbl_ok (by
  simp only [List.mem_cons, List.not_mem_nil, or_false]
  rintro p (rfl | rfl)
  · exact slices_Contains
  · exact msg_place)
instance : Has TML 103 slices_Contains_F := ⟨rfl⟩
instance : Has TML 76 msg_place_F := ⟨rfl⟩

def L102 : CCode := (.loop [0, 1, 2, 6, 7, 8] (.seq (.reg (⟨(some 9), .bin .lss (.t 8) (.t 7), none⟩ ::
    []))
  (.seq (.cond (.t 9) .skip (.exit 0))
  (.seq (.block 1 (.seq (.reg (⟨(some 10), .mv (.t 8), none⟩ ::
    ⟨(some 11), .ixs 1 (.t 6) (.t 8), none⟩ ::
    ⟨(some 12), .ld (.t 11), none⟩ ::
    ⟨(some 4), .mv (.t 10), none⟩ ::
    ⟨(some 5), .mv (.t 12), none⟩ ::
    []))
  (.seq (.reg (⟨(some 13), .mv (.t 0), none⟩ ::
    ⟨(some 14), .mv (.t 5), none⟩ ::
    ⟨(some 15), .mv (.t 5), none⟩ ::
    ⟨(some 16), .ld (.t 2), none⟩ ::
    ⟨(some 17), .bin .neq (.t 15) (.t 16), none⟩ ::
    ⟨(some 18), .mv (.t 17), none⟩ ::
    ⟨(some 19), .ld (.t 1), (some (18, true))⟩ ::
    ⟨(some 20), .mv (.t 4), (some (18, true))⟩ ::
    ⟨(some 21), .sls 1 (.t 19) none (some (.t 20)), (some (18, true))⟩ ::
    ⟨(some 22), .mv (.t 5), (some (18, true))⟩ ::
    ⟨(some 23), .call (.c (.fn 103 [])) [(.t 21), (.t 22)], (some (18, true))⟩ ::
    ⟨(some 24), .not (.t 23), (some (18, true))⟩ ::
    ⟨(some 25), .pick (.t 18) (.t 24) (.c (.d (.bool false))), none⟩ ::
    ⟨(some 26), .call (.t 13) [(.t 14), (.t 25)], none⟩ ::
    ⟨(some 27), .not (.t 26), none⟩ ::
    []))
  (.cond (.t 27) .ret .skip))))
  (.reg (⟨(some 28), .bin .add (.t 8) (.c (.d (.int .i64 1))), none⟩ ::
    ⟨(some 8), .mv (.t 28), none⟩ ::
    []))))))
theorem L102_eq : L102 = .loop [0, 1, 2, 6, 7, 8] (.seq (.reg (⟨(some 9), .bin .lss (.t 8) (.t 7), none⟩ ::
    []))
  (.seq (.cond (.t 9) .skip (.exit 0))
  (.seq (.block 1 (.seq (.reg (⟨(some 10), .mv (.t 8), none⟩ ::
    ⟨(some 11), .ixs 1 (.t 6) (.t 8), none⟩ ::
    ⟨(some 12), .ld (.t 11), none⟩ ::
    ⟨(some 4), .mv (.t 10), none⟩ ::
    ⟨(some 5), .mv (.t 12), none⟩ ::
    []))
  (.seq (.reg (⟨(some 13), .mv (.t 0), none⟩ ::
    ⟨(some 14), .mv (.t 5), none⟩ ::
    ⟨(some 15), .mv (.t 5), none⟩ ::
    ⟨(some 16), .ld (.t 2), none⟩ ::
    ⟨(some 17), .bin .neq (.t 15) (.t 16), none⟩ ::
    ⟨(some 18), .mv (.t 17), none⟩ ::
    ⟨(some 19), .ld (.t 1), (some (18, true))⟩ ::
    ⟨(some 20), .mv (.t 4), (some (18, true))⟩ ::
    ⟨(some 21), .sls 1 (.t 19) none (some (.t 20)), (some (18, true))⟩ ::
    ⟨(some 22), .mv (.t 5), (some (18, true))⟩ ::
    ⟨(some 23), .call (.c (.fn 103 [])) [(.t 21), (.t 22)], (some (18, true))⟩ ::
    ⟨(some 24), .not (.t 23), (some (18, true))⟩ ::
    ⟨(some 25), .pick (.t 18) (.t 24) (.c (.d (.bool false))), none⟩ ::
    ⟨(some 26), .call (.t 13) [(.t 14), (.t 25)], none⟩ ::
    ⟨(some 27), .not (.t 26), none⟩ ::
    []))
  (.cond (.t 27) .ret .skip))))
  (.reg (⟨(some 28), .bin .add (.t 8) (.c (.d (.int .i64 1))), none⟩ ::
    ⟨(some 8), .mv (.t 28), none⟩ ::
    []))))) := rfl
def recL (e0 : Env) : LRec := ⟨[10, 11], (.seq (.reg (⟨(some 5), .mv (.t 10), none⟩ ::
    []))
  (.reg (⟨(some 6), .mv (.t 11), none⟩ ::
    []))), (.block 1 (.seq (.reg (⟨(some 12), .mv (.t 6), none⟩ ::
    ⟨(some 13), .not (.t 12), none⟩ ::
    ⟨(some 14), .mv (.t 13), none⟩ ::
    ⟨(some 15), .mv (.t 5), (some (14, false))⟩ ::
    ⟨(some 16), .call (.c (.fn 76 [])) [(.t 15)], (some (14, false))⟩ ::
    ⟨(some 17), .not (.t 16), (some (14, false))⟩ ::
    ⟨(some 18), .pick (.t 14) (.c (.d (.bool true))) (.t 17), none⟩ ::
    []))
  (.cond (.t 18) (.seq (.reg (⟨none, .st 1 (.t 4) (.c (.d (.bool false))), none⟩ ::
    []))
  .ret) .skip))), e0⟩
def hpL (l : List Int) (src : Int) (b : Bool) : Heap := [some (.cells [.d (.bool b)]), some (.cells [vsI l]), some (.cells [.d (.int .i64 src)])]
theorem others_loop (l : List Int) (src : Int) (hl : l.length < 9223372036854775808) (e0 : Env) (g4 : look e0 4 = some (.ptr 0 0)) : ∀ (k i : Nat), l.length - i = k → i ≤ l.length → ∀ (env : Env),
    look env 0 = some (.yld 0) → look env 1 = some (.ptr 1 0) → look env 2 = some (.ptr 2 0) → look env 6 = some (vsI l) → look env 7 = some (.d (.int .i64 l.length)) → look env 8 = some (.d (.int .i64 i)) →
    ∀ (Q : Ex → Env → St → Prop), (lok src (l.take i) (l.drop i) = true → ∀ env', Q (.ex 0) env' ⟨hpL l src false, [none]⟩) → (lok src (l.take i) (l.drop i) = false → ∀ env', Q .rt env' ⟨hpL l src false, [some .rt]⟩) →
    W TML ⟨[some (recL e0)], 0⟩ L102 env ⟨hpL l src false, [none]⟩ Q := by
  intro k
  induction k with
  | zero =>
    intro i hk hi env h0 h1 h2 h6 h7 h8 Q hQ1 hQ2
    have hlt : ¬ i < l.length := by omega
    rw [L102_eq, W_loop]
    simp [-getElem?_pos, h0, h1, h2, h6, h7, h8, hlt]
    exact hQ1 (by rw [List.drop_eq_nil_of_le (by omega)]; rfl) _
  | succ k ih =>
    intro i hk hi env h0 h1 h2 h6 h7 h8 Q hQ1 hQ2
    have hlt : i < l.length := by omega
    obtain ⟨n, hn⟩ : ∃ n, l[i]? = some n := ⟨_, List.getElem?_eq_getElem hlt⟩
    have hd : l.drop i = n :: l.drop (i + 1) := by rw [List.drop_eq_getElem_cons hlt]; congr 1; exact (List.getElem?_eq_some_iff.1 hn).2
    have hw := wrapN1 i (by omega)
    haveI : Fact ((l.take i).length < 9223372036854775808) := ⟨by rw [List.length_take]; omega⟩
    have hb : i ≤ (rowsI l).length := by rw [rowsI_length]; omega
    have ht := take_snoc hn
    rw [L102_eq, W_loop]
    simp [-getElem?_pos, hpL, h0, h1, h2, h6, h7, h8, hlt, rowsI_get, hn, bound?, sliceA, rowsI_length, rowsI_take, rowsI_ok, hb, -Int.natCast_add]
    all_goals (try (first | refine WLV_splitN (fun hs => ?_) (fun hs => ?_) | refine WLC_splitN (fun hs => ?_) (fun hs => ?_) | refine WLB_splitN (fun hs => ?_) (fun hs => ?_) | refine WLPV_splitN (fun hs => ?_) (fun hs => ?_) | refine WLPC_splitN (fun hs => ?_) (fun hs => ?_) | refine WLPV_split (fun hs => ?_) (fun hs => ?_) | refine WLPC_split (fun hs => ?_) (fun hs => ?_) | refine WLV_split (fun hs => ?_) (fun hs => ?_) | refine WLC_split (fun hs => ?_) (fun hs => ?_) | refine WLB_split (fun hs => ?_) (fun hs => ?_)))
    all_goals (try (have hs' := hs; simp at hs'))
    all_goals (try simp [*, -getElem?_pos, h0, h1, h2, h6, h7, h8, hlt, bound?, sliceA, rowsI_length, rowsI_take, rowsI_ok, hb, -Int.natCast_add])
    all_goals
      refine WLC_yld (r := recL e0) rfl rfl rfl ?_
      simp [recL, bindPs, hpL, -getElem?_pos, g4]
    all_goals (try (first | refine WLV_splitN (fun hs => ?_) (fun hs => ?_) | refine WLC_splitN (fun hs => ?_) (fun hs => ?_) | refine WLB_splitN (fun hs => ?_) (fun hs => ?_) | refine WLPV_splitN (fun hs => ?_) (fun hs => ?_) | refine WLPC_splitN (fun hs => ?_) (fun hs => ?_) | refine WLPV_split (fun hs => ?_) (fun hs => ?_) | refine WLPC_split (fun hs => ?_) (fun hs => ?_) | refine WLV_split (fun hs => ?_) (fun hs => ?_) | refine WLC_split (fun hs => ?_) (fun hs => ?_) | refine WLB_split (fun hs => ?_) (fun hs => ?_)))
    all_goals (try (have hs' := hs; simp at hs'))
    all_goals (try simp [*, -getElem?_pos, afterY, hpL, g4, h0, h1, h2, h6, h7, h8, hlt, -Int.natCast_add])
    all_goals (try (first | refine WLV_splitN (fun hs => ?_) (fun hs => ?_) | refine WLC_splitN (fun hs => ?_) (fun hs => ?_) | refine WLB_splitN (fun hs => ?_) (fun hs => ?_) | refine WLPV_splitN (fun hs => ?_) (fun hs => ?_) | refine WLPC_splitN (fun hs => ?_) (fun hs => ?_) | refine WLPV_split (fun hs => ?_) (fun hs => ?_) | refine WLPC_split (fun hs => ?_) (fun hs => ?_) | refine WLV_split (fun hs => ?_) (fun hs => ?_) | refine WLC_split (fun hs => ?_) (fun hs => ?_) | refine WLB_split (fun hs => ?_) (fun hs => ?_)))
    all_goals (try (have hs' := hs; simp at hs'))
    all_goals (try simp [*, -getElem?_pos, afterY, hpL, g4, h0, h1, h2, h6, h7, h8, hlt, -Int.natCast_add])
    all_goals first
      | (refine hQ2 ?_ _; rw [hd]; simp [lok, *]; done)
      | (refine (WL_of (c := L102)).1 (ih (i + 1) (by omega) (by omega) _ ?_ ?_ ?_ ?_ ?_ ?_ Q (fun hc => hQ1 ?_) (fun hc => hQ2 ?_))
         all_goals first
           | (simp [-getElem?_pos, h0, h1, h2, h6, h7, h8, hw, -Int.natCast_add]; done)
           | (rw [ht] at hc; rw [hd]; simp [lok, *]; done))
theorem msg_list : Pure Try.prog 96 listOk_F := by
  refine con TML_ok rfl rfl fun ⟨l, src⟩ hl => ⟨rfl, ?_⟩
  simp [cf96, -getElem?_pos, SI]
  refine WLC_fn (cf := cf101) rfl rfl rfl ?_
  simp [cf101, afterC, -getElem?_pos]
  refine WL_range (cf := cf102) rfl rfl rfl rfl ?_
  simp [cf102, -getElem?_pos, stepK.lenA, rowsI_length]
  rw [WL_code]
  refine others_loop l src hl _ ?_ l.length 0 (by omega) (by omega) _ ?_ ?_ ?_ ?_ ?_ ?_ _ (fun hc env' => ?_) (fun hc env' => ?_)
  all_goals (try (simp [-getElem?_pos]; done))
  · simp at hc
    simp [-getElem?_pos, hpL, afterR, stepK.lenA, rowsI_length, listOk, hc]
    omega
  · simp at hc
    simp [-getElem?_pos, hpL, afterR, listOk, hc]
noncomputable abbrev msg_list_F := listOk_F

noncomputable def TML2 : Tbl := tbl [(62, garlandref06_place_F)]
theorem TML2_ok : TblOK Try.prog TML2 := tbl_ok (by
  simp only [List.mem_cons, List.not_mem_nil, or_false]
  rintro p (rfl)
  · exact garlandref06_place)
instance : Has TML2 62 garlandref06_place_F := ⟨rfl⟩

def L87a : CCode := (.loop [0, 1, 5] (.seq (.seq (.reg (⟨(some 7), .mv (.t 5), none⟩ ::
    ⟨(some 8), .mv (.t 0), none⟩ ::
    ⟨(some 9), .len false (.t 8), none⟩ ::
    ⟨(some 10), .bin .lss (.t 7) (.t 9), none⟩ ::
    []))
  (.cond (.t 10) .skip (.exit 0)))
  (.seq (.block 1 (.seq (.seq (.reg (⟨(some 13), .mv (.t 0), none⟩ ::
    ⟨(some 14), .mv (.t 5), none⟩ ::
    ⟨(some 15), .ixs 1 (.t 13) (.t 14), none⟩ ::
    ⟨(some 16), .ld (.t 15), none⟩ ::
    ⟨(some 17), .call (.c (.fn 62 [])) [(.t 16)], none⟩ ::
    ⟨(some 18), .not (.t 17), none⟩ ::
    ⟨(some 19), .mv (.t 18), none⟩ ::
    ⟨(some 20), .mv (.t 0), (some (19, false))⟩ ::
    ⟨(some 21), .mv (.t 5), (some (19, false))⟩ ::
    ⟨(some 22), .ixs 1 (.t 20) (.t 21), (some (19, false))⟩ ::
    ⟨(some 23), .ld (.t 22), (some (19, false))⟩ ::
    ⟨(some 24), .mv (.t 1), (some (19, false))⟩ ::
    ⟨(some 25), .bin .eql (.t 23) (.t 24), (some (19, false))⟩ ::
    ⟨(some 26), .pick (.t 19) (.c (.d (.bool true))) (.t 25), none⟩ ::
    []))
  (.cond (.t 26) (.seq (.reg (⟨(some 4), .mv (.c (.d (.bool false))), none⟩ ::
    []))
  .ret) .skip))
  (.seq (.reg (⟨(some 6), .mv (.c (.d (.int .i64 0))), none⟩ ::
    []))
  (.block 2 (.loop [0, 1, 5, 6] (.seq (.seq (.reg (⟨(some 27), .mv (.t 6), none⟩ ::
    ⟨(some 28), .mv (.t 5), none⟩ ::
    ⟨(some 29), .bin .lss (.t 27) (.t 28), none⟩ ::
    []))
  (.cond (.t 29) .skip (.exit 2)))
  (.seq (.block 3 (.seq (.dreg (⟨(some 32), .mv (.t 0), none⟩ ::
    ⟨(some 33), .mv (.t 6), none⟩ ::
    ⟨(some 34), .ixs 1 (.t 32) (.t 33), none⟩ ::
    ⟨(some 35), .ld (.t 34), none⟩ ::
    ⟨(some 36), .mv (.t 0), none⟩ ::
    ⟨(some 37), .mv (.t 5), none⟩ ::
    ⟨(some 38), .ixs 1 (.t 36) (.t 37), none⟩ ::
    ⟨(some 39), .ld (.t 38), none⟩ ::
    ⟨(some 40), .bin .eql (.t 35) (.t 39), none⟩ ::
    []) ([]))
  (.cond (.t 40) (.seq (.reg (⟨(some 4), .mv (.c (.d (.bool false))), none⟩ ::
    []))
  .ret) .skip)))
  (.reg (⟨(some 30), .mv (.t 6), none⟩ ::
    ⟨(some 31), .bin .add (.t 30) (.c (.d (.int .i64 1))), none⟩ ::
    ⟨(some 6), .mv (.t 31), none⟩ ::
    [])))))))))
  (.reg (⟨(some 11), .mv (.t 5), none⟩ ::
    ⟨(some 12), .bin .add (.t 11) (.c (.d (.int .i64 1))), none⟩ ::
    ⟨(some 5), .mv (.t 12), none⟩ ::
    [])))))
theorem L87a_eq : L87a = .loop [0, 1, 5] (.seq (.seq (.reg (⟨(some 7), .mv (.t 5), none⟩ ::
    ⟨(some 8), .mv (.t 0), none⟩ ::
    ⟨(some 9), .len false (.t 8), none⟩ ::
    ⟨(some 10), .bin .lss (.t 7) (.t 9), none⟩ ::
    []))
  (.cond (.t 10) .skip (.exit 0)))
  (.seq (.block 1 (.seq (.seq (.reg (⟨(some 13), .mv (.t 0), none⟩ ::
    ⟨(some 14), .mv (.t 5), none⟩ ::
    ⟨(some 15), .ixs 1 (.t 13) (.t 14), none⟩ ::
    ⟨(some 16), .ld (.t 15), none⟩ ::
    ⟨(some 17), .call (.c (.fn 62 [])) [(.t 16)], none⟩ ::
    ⟨(some 18), .not (.t 17), none⟩ ::
    ⟨(some 19), .mv (.t 18), none⟩ ::
    ⟨(some 20), .mv (.t 0), (some (19, false))⟩ ::
    ⟨(some 21), .mv (.t 5), (some (19, false))⟩ ::
    ⟨(some 22), .ixs 1 (.t 20) (.t 21), (some (19, false))⟩ ::
    ⟨(some 23), .ld (.t 22), (some (19, false))⟩ ::
    ⟨(some 24), .mv (.t 1), (some (19, false))⟩ ::
    ⟨(some 25), .bin .eql (.t 23) (.t 24), (some (19, false))⟩ ::
    ⟨(some 26), .pick (.t 19) (.c (.d (.bool true))) (.t 25), none⟩ ::
    []))
  (.cond (.t 26) (.seq (.reg (⟨(some 4), .mv (.c (.d (.bool false))), none⟩ ::
    []))
  .ret) .skip))
  (.seq (.reg (⟨(some 6), .mv (.c (.d (.int .i64 0))), none⟩ ::
    []))
  (.block 2 (.loop [0, 1, 5, 6] (.seq (.seq (.reg (⟨(some 27), .mv (.t 6), none⟩ ::
    ⟨(some 28), .mv (.t 5), none⟩ ::
    ⟨(some 29), .bin .lss (.t 27) (.t 28), none⟩ ::
    []))
  (.cond (.t 29) .skip (.exit 2)))
  (.seq (.block 3 (.seq (.dreg (⟨(some 32), .mv (.t 0), none⟩ ::
    ⟨(some 33), .mv (.t 6), none⟩ ::
    ⟨(some 34), .ixs 1 (.t 32) (.t 33), none⟩ ::
    ⟨(some 35), .ld (.t 34), none⟩ ::
    ⟨(some 36), .mv (.t 0), none⟩ ::
    ⟨(some 37), .mv (.t 5), none⟩ ::
    ⟨(some 38), .ixs 1 (.t 36) (.t 37), none⟩ ::
    ⟨(some 39), .ld (.t 38), none⟩ ::
    ⟨(some 40), .bin .eql (.t 35) (.t 39), none⟩ ::
    []) ([]))
  (.cond (.t 40) (.seq (.reg (⟨(some 4), .mv (.c (.d (.bool false))), none⟩ ::
    []))
  .ret) .skip)))
  (.reg (⟨(some 30), .mv (.t 6), none⟩ ::
    ⟨(some 31), .bin .add (.t 30) (.c (.d (.int .i64 1))), none⟩ ::
    ⟨(some 6), .mv (.t 31), none⟩ ::
    [])))))))))
  (.reg (⟨(some 11), .mv (.t 5), none⟩ ::
    ⟨(some 12), .bin .add (.t 11) (.c (.d (.int .i64 1))), none⟩ ::
    ⟨(some 5), .mv (.t 12), none⟩ ::
    [])))) := rfl
def L87b : CCode := (.loop [0, 1, 5, 6] (.seq (.seq (.reg (⟨(some 27), .mv (.t 6), none⟩ ::
    ⟨(some 28), .mv (.t 5), none⟩ ::
    ⟨(some 29), .bin .lss (.t 27) (.t 28), none⟩ ::
    []))
  (.cond (.t 29) .skip (.exit 2)))
  (.seq (.block 3 (.seq (.dreg (⟨(some 32), .mv (.t 0), none⟩ ::
    ⟨(some 33), .mv (.t 6), none⟩ ::
    ⟨(some 34), .ixs 1 (.t 32) (.t 33), none⟩ ::
    ⟨(some 35), .ld (.t 34), none⟩ ::
    ⟨(some 36), .mv (.t 0), none⟩ ::
    ⟨(some 37), .mv (.t 5), none⟩ ::
    ⟨(some 38), .ixs 1 (.t 36) (.t 37), none⟩ ::
    ⟨(some 39), .ld (.t 38), none⟩ ::
    ⟨(some 40), .bin .eql (.t 35) (.t 39), none⟩ ::
    []) ([]))
  (.cond (.t 40) (.seq (.reg (⟨(some 4), .mv (.c (.d (.bool false))), none⟩ ::
    []))
  .ret) .skip)))
  (.reg (⟨(some 30), .mv (.t 6), none⟩ ::
    ⟨(some 31), .bin .add (.t 30) (.c (.d (.int .i64 1))), none⟩ ::
    ⟨(some 6), .mv (.t 31), none⟩ ::
    [])))))
theorem L87b_eq : L87b = .loop [0, 1, 5, 6] (.seq (.seq (.reg (⟨(some 27), .mv (.t 6), none⟩ ::
    ⟨(some 28), .mv (.t 5), none⟩ ::
    ⟨(some 29), .bin .lss (.t 27) (.t 28), none⟩ ::
    []))
  (.cond (.t 29) .skip (.exit 2)))
  (.seq (.block 3 (.seq (.dreg (⟨(some 32), .mv (.t 0), none⟩ ::
    ⟨(some 33), .mv (.t 6), none⟩ ::
    ⟨(some 34), .ixs 1 (.t 32) (.t 33), none⟩ ::
    ⟨(some 35), .ld (.t 34), none⟩ ::
    ⟨(some 36), .mv (.t 0), none⟩ ::
    ⟨(some 37), .mv (.t 5), none⟩ ::
    ⟨(some 38), .ixs 1 (.t 36) (.t 37), none⟩ ::
    ⟨(some 39), .ld (.t 38), none⟩ ::
    ⟨(some 40), .bin .eql (.t 35) (.t 39), none⟩ ::
    []) ([]))
  (.cond (.t 40) (.seq (.reg (⟨(some 4), .mv (.c (.d (.bool false))), none⟩ ::
    []))
  .ret) .skip)))
  (.reg (⟨(some 30), .mv (.t 6), none⟩ ::
    ⟨(some 31), .bin .add (.t 30) (.c (.d (.int .i64 1))), none⟩ ::
    ⟨(some 6), .mv (.t 31), none⟩ ::
    [])))) := rfl
theorem list87_b (l : List Int) (src n : Int) (i : Nat) (hl : l.length < 9223372036854775808) (hn : l[i]? = some n) : ∀ (k j : Nat), i - j = k → j ≤ i → ∀ (env : Env),
    look env 0 = some (vsI l) → look env 1 = some (.d (.int .i64 src)) → look env 5 = some (.d (.int .i64 i)) → look env 6 = some (.d (.int .i64 j)) →
    ∀ (Q : Ex → Env → St → Prop), (¬ n ∈ (l.take i).drop j → ∀ env', look env' 0 = some (vsI l) → look env' 1 = some (.d (.int .i64 src)) → look env' 5 = some (.d (.int .i64 i)) → Q (.ex 2) env' ⟨[], []⟩) →
      (n ∈ (l.take i).drop j → ∀ env' h', look env' 4 = some (.d (.bool false)) → Q .rt env' ⟨h', []⟩) → W TML2 ⟨[], 0⟩ L87b env ⟨[], []⟩ Q := by
  have hil : i < l.length := (List.getElem?_eq_some_iff.1 hn).1
  intro k
  induction k with
  | zero =>
    intro j hk hj env h0 h1 h5 h6 Q hQ1 hQ2
    have hlt : ¬ j < i := by omega
    rw [L87b_eq, W_loop]
    simp [-getElem?_pos, h0, h1, h5, h6, hlt]
    refine hQ1 (by rw [List.drop_eq_nil_of_le (by rw [List.length_take]; omega)]; simp) _ ?_ ?_ ?_ <;> simp [-getElem?_pos, h0, h1, h5]
  | succ k ih =>
    intro j hk hj env h0 h1 h5 h6 Q hQ1 hQ2
    have hlt : j < i := by omega
    obtain ⟨m, hm⟩ : ∃ m, l[j]? = some m := ⟨_, List.getElem?_eq_getElem (by omega)⟩
    have hm2 : (l.take i)[j]? = some m := by rw [List.getElem?_take_of_lt hlt, hm]
    have hd : (l.take i).drop j = m :: (l.take i).drop (j + 1) := by rw [List.drop_eq_getElem_cons (by rw [List.length_take]; omega)]; congr 1; exact (List.getElem?_eq_some_iff.1 hm2).2
    have hw := wrapN1 j (by omega)
    rw [L87b_eq, W_loop]
    simp [-getElem?_pos, h0, h1, h5, h6, hlt, rowsI_get, hn, hm, -Int.natCast_add]
    all_goals (try (first | refine WLV_splitN (fun hs => ?_) (fun hs => ?_) | refine WLC_splitN (fun hs => ?_) (fun hs => ?_) | refine WLB_splitN (fun hs => ?_) (fun hs => ?_) | refine WLPV_splitN (fun hs => ?_) (fun hs => ?_) | refine WLPC_splitN (fun hs => ?_) (fun hs => ?_) | refine WLPV_split (fun hs => ?_) (fun hs => ?_) | refine WLPC_split (fun hs => ?_) (fun hs => ?_) | refine WLV_split (fun hs => ?_) (fun hs => ?_) | refine WLC_split (fun hs => ?_) (fun hs => ?_) | refine WLB_split (fun hs => ?_) (fun hs => ?_)))
    all_goals (try (have hs' := hs; simp at hs'))
    all_goals (try simp [*, -getElem?_pos, h0, h1, h5, h6, hlt, -Int.natCast_add])
    all_goals first
      | (refine hQ2 ?_ _ _ ?_
         · rw [hd]; simp [*]
         · simp [-getElem?_pos]
         done)
      | (refine (WL_of (c := L87b)).1 (ih (j + 1) (by omega) (by omega) _ ?_ ?_ ?_ ?_ Q (fun hc => hQ1 ?_) (fun hc => hQ2 ?_))
         all_goals first
           | (simp [-getElem?_pos, h0, h1, h5, hw, -Int.natCast_add]; done)
           | (rw [hd, List.mem_cons]; rintro (e | e)
              · rw [e] at hs; simp at hs
              · exact hc e)
           | (rw [hd, List.mem_cons]; exact .inr hc))
theorem list87_a (l : List Int) (src : Int) (hl : l.length < 9223372036854775808) : ∀ (k i : Nat), l.length - i = k → i ≤ l.length → ∀ (env : Env),
    look env 0 = some (vsI l) → look env 1 = some (.d (.int .i64 src)) → look env 5 = some (.d (.int .i64 i)) →
    ∀ (Q : Ex → Env → St → Prop), (lok src (l.take i) (l.drop i) = true → ∀ env', look env' 0 = some (vsI l) → Q (.ex 0) env' ⟨[], []⟩) →
      (lok src (l.take i) (l.drop i) = false → ∀ env' h', look env' 4 = some (.d (.bool false)) → Q .rt env' ⟨h', []⟩) → W TML2 ⟨[], 0⟩ L87a env ⟨[], []⟩ Q := by
  intro k
  induction k with
  | zero =>
    intro i hk hi env h0 h1 h5 Q hQ1 hQ2
    have hlt : ¬ i < l.length := by omega
    rw [L87a_eq, W_loop]
    simp [-getElem?_pos, h0, h1, h5, stepK.lenA, rowsI_length, hlt]
    refine hQ1 (by rw [List.drop_eq_nil_of_le (by omega)]; rfl) _ ?_ <;> simp [-getElem?_pos, h0]
  | succ k ih =>
    intro i hk hi env h0 h1 h5 Q hQ1 hQ2
    have hlt : i < l.length := by omega
    obtain ⟨n, hn⟩ : ∃ n, l[i]? = some n := ⟨_, List.getElem?_eq_getElem hlt⟩
    have hd : l.drop i = n :: l.drop (i + 1) := by rw [List.drop_eq_getElem_cons hlt]; congr 1; exact (List.getElem?_eq_some_iff.1 hn).2
    have hw := wrapN1 i (by omega)
    have ht := take_snoc hn
    rw [L87a_eq, W_loop]
    simp [-getElem?_pos, h0, h1, h5, stepK.lenA, rowsI_length, hlt, rowsI_get, hn, -Int.natCast_add]
    all_goals (try (first | refine WLV_splitN (fun hs => ?_) (fun hs => ?_) | refine WLC_splitN (fun hs => ?_) (fun hs => ?_) | refine WLB_splitN (fun hs => ?_) (fun hs => ?_) | refine WLPV_splitN (fun hs => ?_) (fun hs => ?_) | refine WLPC_splitN (fun hs => ?_) (fun hs => ?_) | refine WLPV_split (fun hs => ?_) (fun hs => ?_) | refine WLPC_split (fun hs => ?_) (fun hs => ?_) | refine WLV_split (fun hs => ?_) (fun hs => ?_) | refine WLC_split (fun hs => ?_) (fun hs => ?_) | refine WLB_split (fun hs => ?_) (fun hs => ?_)))
    all_goals (try (have hs' := hs; simp at hs'))
    all_goals (try simp [*, -getElem?_pos, h0, h1, h5, stepK.lenA, rowsI_length, hlt, rowsI_get, hn, -Int.natCast_add])
    all_goals (try (first | refine WLV_splitN (fun hs => ?_) (fun hs => ?_) | refine WLC_splitN (fun hs => ?_) (fun hs => ?_) | refine WLB_splitN (fun hs => ?_) (fun hs => ?_) | refine WLPV_splitN (fun hs => ?_) (fun hs => ?_) | refine WLPC_splitN (fun hs => ?_) (fun hs => ?_) | refine WLPV_split (fun hs => ?_) (fun hs => ?_) | refine WLPC_split (fun hs => ?_) (fun hs => ?_) | refine WLV_split (fun hs => ?_) (fun hs => ?_) | refine WLC_split (fun hs => ?_) (fun hs => ?_) | refine WLB_split (fun hs => ?_) (fun hs => ?_)))
    all_goals (try (have hs' := hs; simp at hs'))
    all_goals (try simp [*, -getElem?_pos, h0, h1, h5, stepK.lenA, rowsI_length, hlt, rowsI_get, hn, -Int.natCast_add])
    all_goals first
      | (refine hQ2 ?_ _ _ ?_
         · rw [hd]; simp [lok, *]
         · simp [-getElem?_pos]
         done)
      | (rw [WL_code]
         refine list87_b l src n i hl hn i 0 (by omega) (by omega) _ ?_ ?_ ?_ ?_ _ (fun hc env' a0 a1 a5 => ?_) (fun hc env' h' a4 => ?_)
         all_goals (try (simp [*, -getElem?_pos, h0, h1, h5]; done))
         · rw [List.drop_zero] at hc
           simp [-getElem?_pos, a0, a1, a5, -Int.natCast_add]
           refine (WL_of (c := L87a)).1 (ih (i + 1) (by omega) (by omega) _ ?_ ?_ ?_ Q (fun hc2 => hQ1 ?_) (fun hc2 => hQ2 ?_))
           all_goals first
             | (simp [-getElem?_pos, a0, a1, a5, hw, -Int.natCast_add]; done)
             | (rw [ht] at hc2; rw [hd]; simp [lok, *]; done)
         · rw [List.drop_zero] at hc
           simp [-getElem?_pos, a4]
           refine hQ2 ?_ _ _ a4
           rw [hd]; simp [lok, *])
theorem garlandref06_list : Pure Try.prog 87 listOk_F := by
  refine con TML2_ok rfl rfl fun ⟨l, src⟩ hl => ⟨rfl, ?_⟩
  simp [cf87, -getElem?_pos, SI]
  rw [WL_code]
  refine list87_a l src hl l.length 0 (by omega) (by omega) _ ?_ ?_ ?_ _ (fun hc env' a0 => ?_) (fun hc env' h' a4 => ?_)
  all_goals (try (simp [-getElem?_pos]; done))
  · simp at hc
    simp [-getElem?_pos, a0, stepK.lenA, rowsI_length, listOk, hc]
    omega
  · simp at hc
    simp [-getElem?_pos, a4, listOk, hc]
noncomputable abbrev garlandref06_list_F := listOk_F
end Go.Proofs.Ytbeocehhclfbiaa.Lite
namespace Go.Proofs.Ytbeocehhclfbiaa.Lite
open Go
attribute [local simp] WL_of WL_nil WL_blk WL_skip WL_label WL_exit WL_goto WL_seq WL_block WL_cond WL_reg WL_ret WJ_nil WJ_ex WJ_gt WJ_rt WJ_exb WJ_gtb WJ_rtb WLO_nil WLO_call WO_mv WO_pick WO_new WO_box WO_ld WO_ldn WO_st WO_off WO_ixa WO_ixs WO_fld WO_fldn WO_ixv WO_ixvn WO_ixb WO_bin WO_eqb WO_isn WO_eqs WO_not WO_conv WO_mkf WO_bld WO_bls WO_sla WO_sls WO_sl0 WO_len WO_app WO_mnx WO_ext WO_nilc wants_none wants_some wantv_b wantv_t WLV_true WLV_false WLC_false WLB_true WLB_false evX_t evX_c evXs_nil evXs_cons look_put look_putN look_cons look_arg0 look_arg stepK binOpA intOp strOp evRes oneOf outs gc toDV AV.dat? I Bo av_s List.map List.append_nil getO putO AV.cellsOf bne WL_dreg WLP_nil WLP_call WP_mv WP_pick WP_new WP_box WP_ld WP_ldn WP_off WP_ixa WP_ixs WP_fld WP_fldn WP_ixv WP_ixvn WP_ixb WP_bin WP_eqb WP_isn WP_eqs WP_not WP_conv WP_mkf WP_bld WP_bls WP_sla WP_sls WP_sl0 WP_len WP_app WP_mnx WP_ext WP_nilc WLPV_true WLPV_false WLPC_false WLC_tells WLPC_tells padH onNm onEx List.getElem?_cons_zero List.getElem?_cons_succ List.getElem?_nil restrict AV.lows lay AV.isCell lowObj AObj.lows WJ_nm AV.lows.go WL_scope onGt_rt onGt_nm onGt_ex WL_sreg WP_st preSt eraseB List.set_cons_zero List.set_cons_succ

class AsM (xs : List AV) (m : outParam MW) : Prop where
  d : dats? xs = some m.dats
  l : ∀ N M, AV.lows.go N M xs = true
  t : (AV.agg xs).tied = false
instance (m : MW) : AsM m.cs m := ⟨rfl, fun _ _ => rfl, rfl⟩
instance (kind call src dest key : Int) (slow fin : Bool) (place pred : Int) (lst : List Int) (ikey : List UInt8) (ival iver : Int) (gone : Bool) (code : Int) [h : Fact (lst.length < 9223372036854775808)] :
    AsM [.d (.int .u8 kind), .d (.int .i64 call), .d (.int .i64 src), .d (.int .i64 dest), .d (.int .i64 key), .d (.bool slow), .d (.bool fin), .d (.int .i64 place), .d (.int .i64 pred), .d (.sl (rowsI lst)), .d (.str ikey), .d (.int .i64 ival), .d (.int .i64 iver), .d (.bool gone), .d (.int .i64 code)]
      ⟨kind, call, src, dest, key, slow, fin, place, pred, lst, ikey, ival, iver, gone, code, h.out⟩ := ⟨rfl, fun _ _ => rfl, rfl⟩
instance (kind call src dest key : Int) (slow fin : Bool) (place pred : Int) (ikey : List UInt8) (ival iver : Int) (gone : Bool) (code : Int) :
    AsM [.d (.int .u8 kind), .d (.int .i64 call), .d (.int .i64 src), .d (.int .i64 dest), .d (.int .i64 key), .d (.bool slow), .d (.bool fin), .d (.int .i64 place), .d (.int .i64 pred), .nils, .d (.str ikey), .d (.int .i64 ival), .d (.int .i64 iver), .d (.bool gone), .d (.int .i64 code)]
      ⟨kind, call, src, dest, key, slow, fin, place, pred, [], ikey, ival, iver, gone, code, by decide⟩ := ⟨rfl, fun _ _ => rfl, rfl⟩
theorem eq_item (s : List UInt8) (a b : Int) (g : Bool) (s' : List UInt8) (a' b' : Int) (g' : Bool) : eqCells [2, 0, 0, 1] [.d (.str s), .d (.int .i64 a), .d (.int .i64 b), .d (.bool g)] [.d (.str s'), .d (.int .i64 a'), .d (.int .i64 b'), .d (.bool g')] = some (s == s' && a == a' && b == b' && g == g') := by
  cases h1 : s == s' <;> cases h2 : a == a' <;> cases h3 : b == b' <;> cases h4 : g == g' <;> simp only [eqCells, eqCell, h1, h2, h3, h4, if_true] <;> rfl
theorem asM_to {xs : List AV} {m : MW} (h : AsM xs m) (hp : Heap) : toDV hp (.agg xs) = some (Mg m) := by simp [toDV, h.d, Mg]

def MW.same (a b : MW) : Bool := a.kind == b.kind && a.call == b.call && a.src == b.src && a.dest == b.dest && (a.key == b.key && a.slow == b.slow && a.fin == b.fin && a.place == b.place) && a.pred == b.pred && (a.ikey == b.ikey && a.ival == b.ival && a.iver == b.iver && a.gone == b.gone) && a.code == b.code && a.lst == b.lst
noncomputable def same_F := orcOf (fun p : MW × MW => [Mg p.1, Mg p.2]) (fun _ => True) (fun p => [Bo (p.1.same p.2)])
instance (xs ys : List AV) (a b : MW) [ha : AsM xs a] [hb : AsM ys b] : Tells same_F [.agg xs, .agg ys] (.d (.bool (a.same b))) :=
  ⟨[Mg a, Mg b], [Bo (a.same b)], fun h => by simp only [toDVs, asM_to ha, asM_to hb], orcOf_eq (enc := fun p : MW × MW => [Mg p.1, Mg p.2]) (x := (a, b)) trivial (fun y h => by
    simp only [Mg, List.cons.injEq, DV.g.injEq, and_true] at h
    exact Prod.ext (MW.inj h.1) (MW.inj h.2)), rfl, by simp [DV.flat, Dat.flat, Bo], fun N M => by simp [AV.lows, ha.l, hb.l]⟩
instance (m : MW) : Fact (m.lst.length < 9223372036854775808) := ⟨m.hl⟩
noncomputable def TSA : Tbl := tbl [(97, slices_Equal_F)]
theorem TSA_ok : TblOK Try.prog TSA := tbl_ok (by
  simp only [List.mem_cons, List.not_mem_nil, or_false]
  rintro p (rfl)
  · exact slices_Equal)
instance : Has TSA 97 slices_Equal_F := ⟨rfl⟩

theorem msg_Same : Pure Try.prog 80 same_F := by
  refine con TSA_ok rfl rfl fun ⟨a, b⟩ _ => ⟨rfl, ?_⟩
  simp [cf80, Mg_av, -getElem?_pos, MW.cs, eq_item, MW.same]
  all_goals (try (first | refine WLV_splitN (fun hs => ?_) (fun hs => ?_) | refine WLC_splitN (fun hs => ?_) (fun hs => ?_) | refine WLB_splitN (fun hs => ?_) (fun hs => ?_) | refine WLPV_splitN (fun hs => ?_) (fun hs => ?_) | refine WLPC_splitN (fun hs => ?_) (fun hs => ?_) | refine WLPV_split (fun hs => ?_) (fun hs => ?_) | refine WLPC_split (fun hs => ?_) (fun hs => ?_) | refine WLV_split (fun hs => ?_) (fun hs => ?_) | refine WLC_split (fun hs => ?_) (fun hs => ?_) | refine WLB_split (fun hs => ?_) (fun hs => ?_)))
  all_goals (try (have hs' := hs; simp at hs'))
  all_goals (try simp [*, -getElem?_pos, eq_item])
  all_goals (try (first | refine WLV_splitN (fun hs => ?_) (fun hs => ?_) | refine WLC_splitN (fun hs => ?_) (fun hs => ?_) | refine WLB_splitN (fun hs => ?_) (fun hs => ?_) | refine WLPV_splitN (fun hs => ?_) (fun hs => ?_) | refine WLPC_splitN (fun hs => ?_) (fun hs => ?_) | refine WLPV_split (fun hs => ?_) (fun hs => ?_) | refine WLPC_split (fun hs => ?_) (fun hs => ?_) | refine WLV_split (fun hs => ?_) (fun hs => ?_) | refine WLC_split (fun hs => ?_) (fun hs => ?_) | refine WLB_split (fun hs => ?_) (fun hs => ?_)))
  all_goals (try (have hs' := hs; simp at hs'))
  all_goals (try simp [*, -getElem?_pos, eq_item])
  all_goals (try (first | refine WLV_splitN (fun hs => ?_) (fun hs => ?_) | refine WLC_splitN (fun hs => ?_) (fun hs => ?_) | refine WLB_splitN (fun hs => ?_) (fun hs => ?_) | refine WLPV_splitN (fun hs => ?_) (fun hs => ?_) | refine WLPC_splitN (fun hs => ?_) (fun hs => ?_) | refine WLPV_split (fun hs => ?_) (fun hs => ?_) | refine WLPC_split (fun hs => ?_) (fun hs => ?_) | refine WLV_split (fun hs => ?_) (fun hs => ?_) | refine WLC_split (fun hs => ?_) (fun hs => ?_) | refine WLB_split (fun hs => ?_) (fun hs => ?_)))
  all_goals (try (have hs' := hs; simp at hs'))
  all_goals (try simp [*, -getElem?_pos, eq_item])
  all_goals (try (first | refine WLV_splitN (fun hs => ?_) (fun hs => ?_) | refine WLC_splitN (fun hs => ?_) (fun hs => ?_) | refine WLB_splitN (fun hs => ?_) (fun hs => ?_) | refine WLPV_splitN (fun hs => ?_) (fun hs => ?_) | refine WLPC_splitN (fun hs => ?_) (fun hs => ?_) | refine WLPV_split (fun hs => ?_) (fun hs => ?_) | refine WLPC_split (fun hs => ?_) (fun hs => ?_) | refine WLV_split (fun hs => ?_) (fun hs => ?_) | refine WLC_split (fun hs => ?_) (fun hs => ?_) | refine WLB_split (fun hs => ?_) (fun hs => ?_)))
  all_goals (try (have hs' := hs; simp at hs'))
  all_goals (try simp [*, -getElem?_pos, eq_item])
  all_goals (try (first | refine WLV_splitN (fun hs => ?_) (fun hs => ?_) | refine WLC_splitN (fun hs => ?_) (fun hs => ?_) | refine WLB_splitN (fun hs => ?_) (fun hs => ?_) | refine WLPV_splitN (fun hs => ?_) (fun hs => ?_) | refine WLPC_splitN (fun hs => ?_) (fun hs => ?_) | refine WLPV_split (fun hs => ?_) (fun hs => ?_) | refine WLPC_split (fun hs => ?_) (fun hs => ?_) | refine WLV_split (fun hs => ?_) (fun hs => ?_) | refine WLC_split (fun hs => ?_) (fun hs => ?_) | refine WLB_split (fun hs => ?_) (fun hs => ?_)))
  all_goals (try (have hs' := hs; simp at hs'))
  all_goals (try simp [*, -getElem?_pos, eq_item])
  all_goals (try (first | refine WLV_splitN (fun hs => ?_) (fun hs => ?_) | refine WLC_splitN (fun hs => ?_) (fun hs => ?_) | refine WLB_splitN (fun hs => ?_) (fun hs => ?_) | refine WLPV_splitN (fun hs => ?_) (fun hs => ?_) | refine WLPC_splitN (fun hs => ?_) (fun hs => ?_) | refine WLPV_split (fun hs => ?_) (fun hs => ?_) | refine WLPC_split (fun hs => ?_) (fun hs => ?_) | refine WLV_split (fun hs => ?_) (fun hs => ?_) | refine WLC_split (fun hs => ?_) (fun hs => ?_) | refine WLB_split (fun hs => ?_) (fun hs => ?_)))
  all_goals (try (have hs' := hs; simp at hs'))
  all_goals (try simp [*, -getElem?_pos, eq_item])
  all_goals (try (first | refine WLV_splitN (fun hs => ?_) (fun hs => ?_) | refine WLC_splitN (fun hs => ?_) (fun hs => ?_) | refine WLB_splitN (fun hs => ?_) (fun hs => ?_) | refine WLPV_splitN (fun hs => ?_) (fun hs => ?_) | refine WLPC_splitN (fun hs => ?_) (fun hs => ?_) | refine WLPV_split (fun hs => ?_) (fun hs => ?_) | refine WLPC_split (fun hs => ?_) (fun hs => ?_) | refine WLV_split (fun hs => ?_) (fun hs => ?_) | refine WLC_split (fun hs => ?_) (fun hs => ?_) | refine WLB_split (fun hs => ?_) (fun hs => ?_)))
  all_goals (try (have hs' := hs; simp at hs'))
  all_goals (try simp [*, -getElem?_pos, eq_item])
  all_goals (try (first | refine WLV_splitN (fun hs => ?_) (fun hs => ?_) | refine WLC_splitN (fun hs => ?_) (fun hs => ?_) | refine WLB_splitN (fun hs => ?_) (fun hs => ?_) | refine WLPV_splitN (fun hs => ?_) (fun hs => ?_) | refine WLPC_splitN (fun hs => ?_) (fun hs => ?_) | refine WLPV_split (fun hs => ?_) (fun hs => ?_) | refine WLPC_split (fun hs => ?_) (fun hs => ?_) | refine WLV_split (fun hs => ?_) (fun hs => ?_) | refine WLC_split (fun hs => ?_) (fun hs => ?_) | refine WLB_split (fun hs => ?_) (fun hs => ?_)))
  all_goals (try (have hs' := hs; simp at hs'))
  all_goals (try simp [*, -getElem?_pos, eq_item])
  all_goals (try (first | refine WLV_splitN (fun hs => ?_) (fun hs => ?_) | refine WLC_splitN (fun hs => ?_) (fun hs => ?_) | refine WLB_splitN (fun hs => ?_) (fun hs => ?_) | refine WLPV_splitN (fun hs => ?_) (fun hs => ?_) | refine WLPC_splitN (fun hs => ?_) (fun hs => ?_) | refine WLPV_split (fun hs => ?_) (fun hs => ?_) | refine WLPC_split (fun hs => ?_) (fun hs => ?_) | refine WLV_split (fun hs => ?_) (fun hs => ?_) | refine WLC_split (fun hs => ?_) (fun hs => ?_) | refine WLB_split (fun hs => ?_) (fun hs => ?_)))
  all_goals (try (have hs' := hs; simp at hs'))
  all_goals (try simp [*, -getElem?_pos, eq_item])
  all_goals (try (first | refine WLV_splitN (fun hs => ?_) (fun hs => ?_) | refine WLC_splitN (fun hs => ?_) (fun hs => ?_) | refine WLB_splitN (fun hs => ?_) (fun hs => ?_) | refine WLPV_splitN (fun hs => ?_) (fun hs => ?_) | refine WLPC_splitN (fun hs => ?_) (fun hs => ?_) | refine WLPV_split (fun hs => ?_) (fun hs => ?_) | refine WLPC_split (fun hs => ?_) (fun hs => ?_) | refine WLV_split (fun hs => ?_) (fun hs => ?_) | refine WLC_split (fun hs => ?_) (fun hs => ?_) | refine WLB_split (fun hs => ?_) (fun hs => ?_)))
  all_goals (try (have hs' := hs; simp at hs'))
  all_goals (try simp [*, -getElem?_pos, eq_item])
  all_goals (try (first | refine WLV_splitN (fun hs => ?_) (fun hs => ?_) | refine WLC_splitN (fun hs => ?_) (fun hs => ?_) | refine WLB_splitN (fun hs => ?_) (fun hs => ?_) | refine WLPV_splitN (fun hs => ?_) (fun hs => ?_) | refine WLPC_splitN (fun hs => ?_) (fun hs => ?_) | refine WLPV_split (fun hs => ?_) (fun hs => ?_) | refine WLPC_split (fun hs => ?_) (fun hs => ?_) | refine WLV_split (fun hs => ?_) (fun hs => ?_) | refine WLC_split (fun hs => ?_) (fun hs => ?_) | refine WLB_split (fun hs => ?_) (fun hs => ?_)))
  all_goals (try (have hs' := hs; simp at hs'))
  all_goals (try simp [*, -getElem?_pos, eq_item])
noncomputable abbrev msg_Same_F := same_F
end Go.Proofs.Ytbeocehhclfbiaa.Lite
namespace Go.Proofs.Ytbeocehhclfbiaa.Lite
open Go
attribute [local simp] WL_of WL_nil WL_blk WL_skip WL_label WL_exit WL_goto WL_seq WL_block WL_cond WL_reg WL_ret WJ_nil WJ_ex WJ_gt WJ_rt WJ_exb WJ_gtb WJ_rtb WLO_nil WLO_call WO_mv WO_pick WO_new WO_box WO_ld WO_ldn WO_st WO_off WO_ixa WO_ixs WO_fld WO_fldn WO_ixv WO_ixvn WO_ixb WO_bin WO_eqb WO_isn WO_eqs WO_not WO_conv WO_mkf WO_bld WO_bls WO_sla WO_sls WO_sl0 WO_len WO_app WO_mnx WO_ext WO_nilc wants_none wants_some wantv_b wantv_t WLV_true WLV_false WLC_false WLB_true WLB_false evX_t evX_c evXs_nil evXs_cons look_put look_putN look_cons look_arg0 look_arg stepK binOpA intOp strOp evRes oneOf outs gc toDV AV.dat? I Bo av_s List.map List.append_nil getO putO AV.cellsOf bne WL_dreg WLP_nil WLP_call WP_mv WP_pick WP_new WP_box WP_ld WP_ldn WP_off WP_ixa WP_ixs WP_fld WP_fldn WP_ixv WP_ixvn WP_ixb WP_bin WP_eqb WP_isn WP_eqs WP_not WP_conv WP_mkf WP_bld WP_bls WP_sla WP_sls WP_sl0 WP_len WP_app WP_mnx WP_ext WP_nilc WLPV_true WLPV_false WLPC_false WLC_tells WLPC_tells padH onNm onEx List.getElem?_cons_zero List.getElem?_cons_succ List.getElem?_nil restrict AV.lows lay AV.isCell lowObj AObj.lows WJ_nm AV.lows.go WL_scope onGt_rt onGt_nm onGt_ex WL_sreg WP_st preSt eraseB List.set_cons_zero List.set_cons_succ

def L19 : CCode := (.loop [2, 3, 5] (.seq (.seq (.reg (⟨(some 13), .mv (.t 5), none⟩ ::
    ⟨(some 14), .off 9 (.t 2), none⟩ ::
    ⟨(some 15), .ld (.t 14), none⟩ ::
    ⟨(some 16), .len false (.t 15), none⟩ ::
    ⟨(some 17), .bin .lss (.t 13) (.t 16), none⟩ ::
    []))
  (.cond (.t 17) .skip (.exit 0)))
  (.seq (.block 1 (.seq (.dreg (⟨(some 20), .off 9 (.t 2), none⟩ ::
    ⟨(some 21), .ld (.t 20), none⟩ ::
    ⟨(some 22), .mv (.t 5), none⟩ ::
    ⟨(some 23), .ixs 1 (.t 21) (.t 22), none⟩ ::
    ⟨(some 24), .ld (.t 23), none⟩ ::
    ⟨(some 25), .off 9 (.t 3), none⟩ ::
    ⟨(some 26), .ld (.t 25), none⟩ ::
    ⟨(some 27), .mv (.t 5), none⟩ ::
    ⟨(some 28), .ixs 1 (.t 26) (.t 27), none⟩ ::
    ⟨(some 29), .ld (.t 28), none⟩ ::
    ⟨(some 30), .bin .neq (.t 24) (.t 29), none⟩ ::
    []) ([]))
  (.cond (.t 30) (.seq (.reg (⟨(some 4), .mv (.c (.d (.bool false))), none⟩ ::
    []))
  .ret) .skip)))
  (.reg (⟨(some 18), .mv (.t 5), none⟩ ::
    ⟨(some 19), .bin .add (.t 18) (.c (.d (.int .i64 1))), none⟩ ::
    ⟨(some 5), .mv (.t 19), none⟩ ::
    [])))))
theorem L19_eq : L19 = .loop [2, 3, 5] (.seq (.seq (.reg (⟨(some 13), .mv (.t 5), none⟩ ::
    ⟨(some 14), .off 9 (.t 2), none⟩ ::
    ⟨(some 15), .ld (.t 14), none⟩ ::
    ⟨(some 16), .len false (.t 15), none⟩ ::
    ⟨(some 17), .bin .lss (.t 13) (.t 16), none⟩ ::
    []))
  (.cond (.t 17) .skip (.exit 0)))
  (.seq (.block 1 (.seq (.dreg (⟨(some 20), .off 9 (.t 2), none⟩ ::
    ⟨(some 21), .ld (.t 20), none⟩ ::
    ⟨(some 22), .mv (.t 5), none⟩ ::
    ⟨(some 23), .ixs 1 (.t 21) (.t 22), none⟩ ::
    ⟨(some 24), .ld (.t 23), none⟩ ::
    ⟨(some 25), .off 9 (.t 3), none⟩ ::
    ⟨(some 26), .ld (.t 25), none⟩ ::
    ⟨(some 27), .mv (.t 5), none⟩ ::
    ⟨(some 28), .ixs 1 (.t 26) (.t 27), none⟩ ::
    ⟨(some 29), .ld (.t 28), none⟩ ::
    ⟨(some 30), .bin .neq (.t 24) (.t 29), none⟩ ::
    []) ([]))
  (.cond (.t 30) (.seq (.reg (⟨(some 4), .mv (.c (.d (.bool false))), none⟩ ::
    []))
  .ret) .skip)))
  (.reg (⟨(some 18), .mv (.t 5), none⟩ ::
    ⟨(some 19), .bin .add (.t 18) (.c (.d (.int .i64 1))), none⟩ ::
    ⟨(some 5), .mv (.t 19), none⟩ ::
    [])))) := rfl
def hp19 (a b : MW) : Heap := [some (.cells a.cs), some (.cells b.cs)]
theorem mcs_9 (m : MW) : m.cs[9]? = some (vsI m.lst) := rfl
theorem same19_loop (a b : MW) (hlr : a.lst.length = b.lst.length) : ∀ (k i : Nat), a.lst.length - i = k → i ≤ a.lst.length → ∀ (env : Env), look env 2 = some (.ptr 0 0) → look env 3 = some (.ptr 1 0) → look env 5 = some (.d (.int .i64 i)) →
    ∀ (Q : Ex → Env → St → Prop), (a.lst.drop i = b.lst.drop i → ∀ env', look env' 2 = some (.ptr 0 0) → look env' 3 = some (.ptr 1 0) → Q (.ex 0) env' ⟨hp19 a b, []⟩) → (a.lst.drop i ≠ b.lst.drop i → ∀ env' h', look env' 4 = some (.d (.bool false)) → Q .rt env' ⟨h', []⟩) → W (tbl []) ⟨[], 0⟩ L19 env ⟨hp19 a b, []⟩ Q := by
  have hl := a.hl
  intro k
  induction k with
  | zero =>
    intro i hk hi env h2 h3 h5 Q hQ1 hQ2
    have hlt : ¬ i < a.lst.length := by omega
    have hlt' : ¬ i < b.lst.length := by omega
    rw [L19_eq, W_loop]
    simp [-getElem?_pos, hp19, h2, h3, h5, mcs_9, stepK.lenA, rowsI_length, hlt, hlt']
    refine hQ1 (by rw [List.drop_eq_nil_of_le (by omega), List.drop_eq_nil_of_le (by omega)]) _ ?_ ?_ <;> simp [-getElem?_pos, h2, h3]
  | succ k ih =>
    intro i hk hi env h2 h3 h5 Q hQ1 hQ2
    have hlt : i < a.lst.length := by omega
    have hlt' : i < b.lst.length := by omega
    obtain ⟨m, hn⟩ : ∃ m, a.lst[i]? = some m := ⟨_, List.getElem?_eq_getElem hlt⟩
    obtain ⟨m2, hn2⟩ : ∃ m, b.lst[i]? = some m := ⟨_, List.getElem?_eq_getElem (by omega)⟩
    have hd : a.lst.drop i = m :: a.lst.drop (i + 1) := by rw [List.drop_eq_getElem_cons hlt]; congr 1; exact (List.getElem?_eq_some_iff.1 hn).2
    have hd2 : b.lst.drop i = m2 :: b.lst.drop (i + 1) := by rw [List.drop_eq_getElem_cons (by omega)]; congr 1; exact (List.getElem?_eq_some_iff.1 hn2).2
    have hw := wrapN1 i (by omega)
    rw [L19_eq, W_loop]
    simp [-getElem?_pos, hp19, h2, h3, h5, mcs_9, stepK.lenA, rowsI_length, hlt, hlt', rowsI_get, hn, hn2, mcs_all, mcs_lows, -Int.natCast_add]
    all_goals (try (first | refine WLV_splitN (fun hs => ?_) (fun hs => ?_) | refine WLC_splitN (fun hs => ?_) (fun hs => ?_) | refine WLB_splitN (fun hs => ?_) (fun hs => ?_) | refine WLPV_splitN (fun hs => ?_) (fun hs => ?_) | refine WLPC_splitN (fun hs => ?_) (fun hs => ?_) | refine WLPV_split (fun hs => ?_) (fun hs => ?_) | refine WLPC_split (fun hs => ?_) (fun hs => ?_) | refine WLV_split (fun hs => ?_) (fun hs => ?_) | refine WLC_split (fun hs => ?_) (fun hs => ?_) | refine WLB_split (fun hs => ?_) (fun hs => ?_)))
    all_goals (try (have hs' := hs; simp at hs'))
    all_goals (try simp [*, -getElem?_pos, hp19, h2, h3, h5, mcs_9, mcs_all, mcs_lows, -Int.natCast_add])
    all_goals first
      | (refine hQ2 (by rw [hd, hd2]; simp [*]) _ _ ?_; simp [-getElem?_pos]; done)
      | (refine (WL_of (c := L19)).1 (ih (i + 1) (by omega) (by omega) _ ?_ ?_ ?_ Q (fun h => hQ1 ?_) (fun h => hQ2 ?_))
         · simp [-getElem?_pos, h2]
         · simp [-getElem?_pos, h3]
         · simp [-getElem?_pos, hw, -Int.natCast_add]
         · rw [hd, hd2, h]; simp [*]
         · rw [hd, hd2]; simp [*])
theorem mcs_4 (m : MW) : m.cs[4]? = some (.d (.int .i64 m.key)) := rfl
theorem mcs_5 (m : MW) : m.cs[5]? = some (.d (.bool m.slow)) := rfl
theorem mcs_6 (m : MW) : m.cs[6]? = some (.d (.bool m.fin)) := rfl
theorem mcs_7 (m : MW) : m.cs[7]? = some (.d (.int .i64 m.place)) := rfl
theorem mcs_8 (m : MW) : m.cs[8]? = some (.d (.int .i64 m.pred)) := rfl
theorem mcs_14 (m : MW) : m.cs[14]? = some (.d (.int .i64 m.code)) := rfl
theorem mcs_it (m : MW) : (m.cs.drop 10).take 4 = [.d (.str m.ikey), .d (.int .i64 m.ival), .d (.int .i64 m.iver), .d (.bool m.gone)] := rfl
theorem garlandref06_Same : Pure Try.prog 19 same_F := by
  refine con (T := tbl []) (tbl_ok (by simp)) rfl rfl fun ⟨a, b⟩ _ => ⟨rfl, ?_⟩
  by_cases hlr : a.lst.length = b.lst.length
  · simp [cf19, Mg_av, -getElem?_pos, mcs_9, stepK.lenA, rowsI_length, hlr]
    rw [WL_code]
    refine same19_loop a b hlr a.lst.length 0 (by omega) (by omega) _ ?_ ?_ ?_ _ (fun h env' h2 h3 => ?_) (fun h env' h' h4 => ?_)
    all_goals (try (simp [-getElem?_pos]; done))
    · simp only [List.drop_zero] at h
      have e : (a.lst == b.lst) = true := by rw [h]; simp
      simp [-getElem?_pos, hp19, h2, h3, mcs_0, mcs_1, mcs_2, mcs_3, mcs_4, mcs_5, mcs_6, mcs_7, mcs_8, mcs_14, mcs_len, mcs_it, eq_item, MW.same, e]
      all_goals (try (first | refine WLV_splitN (fun hs => ?_) (fun hs => ?_) | refine WLC_splitN (fun hs => ?_) (fun hs => ?_) | refine WLB_splitN (fun hs => ?_) (fun hs => ?_) | refine WLPV_splitN (fun hs => ?_) (fun hs => ?_) | refine WLPC_splitN (fun hs => ?_) (fun hs => ?_) | refine WLPV_split (fun hs => ?_) (fun hs => ?_) | refine WLPC_split (fun hs => ?_) (fun hs => ?_) | refine WLV_split (fun hs => ?_) (fun hs => ?_) | refine WLC_split (fun hs => ?_) (fun hs => ?_) | refine WLB_split (fun hs => ?_) (fun hs => ?_)))
      all_goals (try (have hs' := hs; simp at hs'))
      all_goals (try simp [*, -getElem?_pos, mcs_0, mcs_1, mcs_2, mcs_3, mcs_4, mcs_5, mcs_6, mcs_7, mcs_8, mcs_14, mcs_len, mcs_it, eq_item])
      all_goals (try (first | refine WLV_splitN (fun hs => ?_) (fun hs => ?_) | refine WLC_splitN (fun hs => ?_) (fun hs => ?_) | refine WLB_splitN (fun hs => ?_) (fun hs => ?_) | refine WLPV_splitN (fun hs => ?_) (fun hs => ?_) | refine WLPC_splitN (fun hs => ?_) (fun hs => ?_) | refine WLPV_split (fun hs => ?_) (fun hs => ?_) | refine WLPC_split (fun hs => ?_) (fun hs => ?_) | refine WLV_split (fun hs => ?_) (fun hs => ?_) | refine WLC_split (fun hs => ?_) (fun hs => ?_) | refine WLB_split (fun hs => ?_) (fun hs => ?_)))
      all_goals (try (have hs' := hs; simp at hs'))
      all_goals (try simp [*, -getElem?_pos, mcs_0, mcs_1, mcs_2, mcs_3, mcs_4, mcs_5, mcs_6, mcs_7, mcs_8, mcs_14, mcs_len, mcs_it, eq_item])
      all_goals (try (first | refine WLV_splitN (fun hs => ?_) (fun hs => ?_) | refine WLC_splitN (fun hs => ?_) (fun hs => ?_) | refine WLB_splitN (fun hs => ?_) (fun hs => ?_) | refine WLPV_splitN (fun hs => ?_) (fun hs => ?_) | refine WLPC_splitN (fun hs => ?_) (fun hs => ?_) | refine WLPV_split (fun hs => ?_) (fun hs => ?_) | refine WLPC_split (fun hs => ?_) (fun hs => ?_) | refine WLV_split (fun hs => ?_) (fun hs => ?_) | refine WLC_split (fun hs => ?_) (fun hs => ?_) | refine WLB_split (fun hs => ?_) (fun hs => ?_)))
      all_goals (try (have hs' := hs; simp at hs'))
      all_goals (try simp [*, -getElem?_pos, mcs_0, mcs_1, mcs_2, mcs_3, mcs_4, mcs_5, mcs_6, mcs_7, mcs_8, mcs_14, mcs_len, mcs_it, eq_item])
      all_goals (try (first | refine WLV_splitN (fun hs => ?_) (fun hs => ?_) | refine WLC_splitN (fun hs => ?_) (fun hs => ?_) | refine WLB_splitN (fun hs => ?_) (fun hs => ?_) | refine WLPV_splitN (fun hs => ?_) (fun hs => ?_) | refine WLPC_splitN (fun hs => ?_) (fun hs => ?_) | refine WLPV_split (fun hs => ?_) (fun hs => ?_) | refine WLPC_split (fun hs => ?_) (fun hs => ?_) | refine WLV_split (fun hs => ?_) (fun hs => ?_) | refine WLC_split (fun hs => ?_) (fun hs => ?_) | refine WLB_split (fun hs => ?_) (fun hs => ?_)))
      all_goals (try (have hs' := hs; simp at hs'))
      all_goals (try simp [*, -getElem?_pos, mcs_0, mcs_1, mcs_2, mcs_3, mcs_4, mcs_5, mcs_6, mcs_7, mcs_8, mcs_14, mcs_len, mcs_it, eq_item])
      all_goals (try (first | refine WLV_splitN (fun hs => ?_) (fun hs => ?_) | refine WLC_splitN (fun hs => ?_) (fun hs => ?_) | refine WLB_splitN (fun hs => ?_) (fun hs => ?_) | refine WLPV_splitN (fun hs => ?_) (fun hs => ?_) | refine WLPC_splitN (fun hs => ?_) (fun hs => ?_) | refine WLPV_split (fun hs => ?_) (fun hs => ?_) | refine WLPC_split (fun hs => ?_) (fun hs => ?_) | refine WLV_split (fun hs => ?_) (fun hs => ?_) | refine WLC_split (fun hs => ?_) (fun hs => ?_) | refine WLB_split (fun hs => ?_) (fun hs => ?_)))
      all_goals (try (have hs' := hs; simp at hs'))
      all_goals (try simp [*, -getElem?_pos, mcs_0, mcs_1, mcs_2, mcs_3, mcs_4, mcs_5, mcs_6, mcs_7, mcs_8, mcs_14, mcs_len, mcs_it, eq_item])
      all_goals (try (first | refine WLV_splitN (fun hs => ?_) (fun hs => ?_) | refine WLC_splitN (fun hs => ?_) (fun hs => ?_) | refine WLB_splitN (fun hs => ?_) (fun hs => ?_) | refine WLPV_splitN (fun hs => ?_) (fun hs => ?_) | refine WLPC_splitN (fun hs => ?_) (fun hs => ?_) | refine WLPV_split (fun hs => ?_) (fun hs => ?_) | refine WLPC_split (fun hs => ?_) (fun hs => ?_) | refine WLV_split (fun hs => ?_) (fun hs => ?_) | refine WLC_split (fun hs => ?_) (fun hs => ?_) | refine WLB_split (fun hs => ?_) (fun hs => ?_)))
      all_goals (try (have hs' := hs; simp at hs'))
      all_goals (try simp [*, -getElem?_pos, mcs_0, mcs_1, mcs_2, mcs_3, mcs_4, mcs_5, mcs_6, mcs_7, mcs_8, mcs_14, mcs_len, mcs_it, eq_item])
      all_goals (try (first | refine WLV_splitN (fun hs => ?_) (fun hs => ?_) | refine WLC_splitN (fun hs => ?_) (fun hs => ?_) | refine WLB_splitN (fun hs => ?_) (fun hs => ?_) | refine WLPV_splitN (fun hs => ?_) (fun hs => ?_) | refine WLPC_splitN (fun hs => ?_) (fun hs => ?_) | refine WLPV_split (fun hs => ?_) (fun hs => ?_) | refine WLPC_split (fun hs => ?_) (fun hs => ?_) | refine WLV_split (fun hs => ?_) (fun hs => ?_) | refine WLC_split (fun hs => ?_) (fun hs => ?_) | refine WLB_split (fun hs => ?_) (fun hs => ?_)))
      all_goals (try (have hs' := hs; simp at hs'))
      all_goals (try simp [*, -getElem?_pos, mcs_0, mcs_1, mcs_2, mcs_3, mcs_4, mcs_5, mcs_6, mcs_7, mcs_8, mcs_14, mcs_len, mcs_it, eq_item])
      all_goals (try (first | refine WLV_splitN (fun hs => ?_) (fun hs => ?_) | refine WLC_splitN (fun hs => ?_) (fun hs => ?_) | refine WLB_splitN (fun hs => ?_) (fun hs => ?_) | refine WLPV_splitN (fun hs => ?_) (fun hs => ?_) | refine WLPC_splitN (fun hs => ?_) (fun hs => ?_) | refine WLPV_split (fun hs => ?_) (fun hs => ?_) | refine WLPC_split (fun hs => ?_) (fun hs => ?_) | refine WLV_split (fun hs => ?_) (fun hs => ?_) | refine WLC_split (fun hs => ?_) (fun hs => ?_) | refine WLB_split (fun hs => ?_) (fun hs => ?_)))
      all_goals (try (have hs' := hs; simp at hs'))
      all_goals (try simp [*, -getElem?_pos, mcs_0, mcs_1, mcs_2, mcs_3, mcs_4, mcs_5, mcs_6, mcs_7, mcs_8, mcs_14, mcs_len, mcs_it, eq_item])
      all_goals (try (first | refine WLV_splitN (fun hs => ?_) (fun hs => ?_) | refine WLC_splitN (fun hs => ?_) (fun hs => ?_) | refine WLB_splitN (fun hs => ?_) (fun hs => ?_) | refine WLPV_splitN (fun hs => ?_) (fun hs => ?_) | refine WLPC_splitN (fun hs => ?_) (fun hs => ?_) | refine WLPV_split (fun hs => ?_) (fun hs => ?_) | refine WLPC_split (fun hs => ?_) (fun hs => ?_) | refine WLV_split (fun hs => ?_) (fun hs => ?_) | refine WLC_split (fun hs => ?_) (fun hs => ?_) | refine WLB_split (fun hs => ?_) (fun hs => ?_)))
      all_goals (try (have hs' := hs; simp at hs'))
      all_goals (try simp [*, -getElem?_pos, mcs_0, mcs_1, mcs_2, mcs_3, mcs_4, mcs_5, mcs_6, mcs_7, mcs_8, mcs_14, mcs_len, mcs_it, eq_item])
      all_goals (try (first | refine WLV_splitN (fun hs => ?_) (fun hs => ?_) | refine WLC_splitN (fun hs => ?_) (fun hs => ?_) | refine WLB_splitN (fun hs => ?_) (fun hs => ?_) | refine WLPV_splitN (fun hs => ?_) (fun hs => ?_) | refine WLPC_splitN (fun hs => ?_) (fun hs => ?_) | refine WLPV_split (fun hs => ?_) (fun hs => ?_) | refine WLPC_split (fun hs => ?_) (fun hs => ?_) | refine WLV_split (fun hs => ?_) (fun hs => ?_) | refine WLC_split (fun hs => ?_) (fun hs => ?_) | refine WLB_split (fun hs => ?_) (fun hs => ?_)))
      all_goals (try (have hs' := hs; simp at hs'))
      all_goals (try simp [*, -getElem?_pos, mcs_0, mcs_1, mcs_2, mcs_3, mcs_4, mcs_5, mcs_6, mcs_7, mcs_8, mcs_14, mcs_len, mcs_it, eq_item])
      all_goals (try (first | refine WLV_splitN (fun hs => ?_) (fun hs => ?_) | refine WLC_splitN (fun hs => ?_) (fun hs => ?_) | refine WLB_splitN (fun hs => ?_) (fun hs => ?_) | refine WLPV_splitN (fun hs => ?_) (fun hs => ?_) | refine WLPC_splitN (fun hs => ?_) (fun hs => ?_) | refine WLPV_split (fun hs => ?_) (fun hs => ?_) | refine WLPC_split (fun hs => ?_) (fun hs => ?_) | refine WLV_split (fun hs => ?_) (fun hs => ?_) | refine WLC_split (fun hs => ?_) (fun hs => ?_) | refine WLB_split (fun hs => ?_) (fun hs => ?_)))
      all_goals (try (have hs' := hs; simp at hs'))
      all_goals (try simp [*, -getElem?_pos, mcs_0, mcs_1, mcs_2, mcs_3, mcs_4, mcs_5, mcs_6, mcs_7, mcs_8, mcs_14, mcs_len, mcs_it, eq_item])
    · simp only [List.drop_zero] at h
      have e : (a.lst == b.lst) = false := by rw [beq_eq_false_iff_ne]; exact h
      simp [-getElem?_pos, h4, MW.same, e]
  · have e : ((a.lst.length : Int) == (b.lst.length : Int)) = false := by rw [beq_eq_false_iff_ne]; omega
    have e2 : (a.lst == b.lst) = false := by rw [beq_eq_false_iff_ne]; intro h; rw [h] at hlr; exact hlr rfl
    simp [cf19, Mg_av, -getElem?_pos, mcs_9, stepK.lenA, rowsI_length, e, e2, hlr, MW.same]
noncomputable abbrev garlandref06_Same_F := same_F
end Go.Proofs.Ytbeocehhclfbiaa.Lite
namespace Go.Proofs.Ytbeocehhclfbiaa.Lite
open Go
attribute [local simp] WL_of WL_nil WL_blk WL_skip WL_label WL_exit WL_goto WL_seq WL_block WL_cond WL_reg WL_ret WJ_nil WJ_ex WJ_gt WJ_rt WJ_exb WJ_gtb WJ_rtb WLO_nil WLO_call WO_mv WO_pick WO_new WO_box WO_ld WO_ldn WO_st WO_off WO_ixa WO_ixs WO_fld WO_fldn WO_ixv WO_ixvn WO_ixb WO_bin WO_eqb WO_isn WO_eqs WO_not WO_conv WO_mkf WO_bld WO_bls WO_sla WO_sls WO_sl0 WO_len WO_app WO_mnx WO_ext WO_nilc wants_none wants_some wantv_b wantv_t WLV_true WLV_false WLC_false WLB_true WLB_false evX_t evX_c evXs_nil evXs_cons look_put look_putN look_cons look_arg0 look_arg stepK binOpA intOp strOp evRes oneOf outs gc toDV AV.dat? I Bo av_s List.map List.append_nil getO putO AV.cellsOf bne WL_dreg WLP_nil WLP_call WP_mv WP_pick WP_new WP_box WP_ld WP_ldn WP_off WP_ixa WP_ixs WP_fld WP_fldn WP_ixv WP_ixvn WP_ixb WP_bin WP_eqb WP_isn WP_eqs WP_not WP_conv WP_mkf WP_bld WP_bls WP_sla WP_sls WP_sl0 WP_len WP_app WP_mnx WP_ext WP_nilc WLPV_true WLPV_false WLPC_false WLC_tells WLPC_tells padH onNm onEx List.getElem?_cons_zero List.getElem?_cons_succ List.getElem?_nil restrict AV.lows lay AV.isCell lowObj AObj.lows WJ_nm AV.lows.go WL_scope onGt_rt onGt_nm onGt_ex WL_sreg WP_st preSt eraseB List.set_cons_zero List.set_cons_succ

def MW.bare (m : MW) : MW :=
  if m.kind = 4 then { m with key := 0, slow := false }
  else if m.kind = 5 ∨ m.kind = 6 then { m with ikey := [], ival := 0, iver := 0, gone := false }
  else if m.kind = 7 then { m with pred := 0, lst := [], hl := by decide }
  else if m.kind = 10 then { m with place := 0, fin := false }
  else if m.kind = 11 then { m with code := 0 }
  else if m.kind = 12 then { m with code := 0, ikey := [], ival := 0, iver := 0, gone := false }
  else m
noncomputable def bare_F := orcOf (fun m : MW => [Mg m]) (fun _ => True) (fun m => [Mg m.bare])
theorem MW.flat_or (m : MW) (xs : List AV) (h : AsM xs m) {b : Bool} : (!([AV.agg xs] : List AV).any AV.tied || b) = true := by simp [h.t]
instance (xs : List AV) (m : MW) [h : AsM xs m] : Tells bare_F [.agg xs] (.agg m.bare.cs) := ⟨[Mg m], [Mg m.bare], fun hp => by simp only [toDVs, asM_to h], orcM m, rfl, MW.flat_or m xs h, fun N M => by simp [AV.lows, h.l]⟩
theorem kinds (k : Int) : k = 4 ∨ k = 5 ∨ k = 6 ∨ k = 7 ∨ k = 10 ∨ k = 11 ∨ k = 12 ∨ (k ≠ 4 ∧ k ≠ 5 ∧ k ≠ 6 ∧ k ≠ 7 ∧ k ≠ 10 ∧ k ≠ 11 ∧ k ≠ 12) := by omega
theorem garlandref06_bare : Pure Try.prog 64 bare_F := by
  refine con (T := tbl []) (tbl_ok (by simp)) rfl rfl fun m _ => ⟨rfl, ?_⟩
  obtain ⟨kind, call, src, dest, key, slow, fin, place, pred, lst, ikey, ival, iver, gone, code, hl⟩ := m
  rcases kinds kind with h | h | h | h | h | h | h | ⟨h1, h2, h3, h4, h5, h6, h7⟩
  all_goals (try subst h)
  all_goals (try have e1 := beq_eq_false_iff_ne.2 h1)
  all_goals (try have e2 := beq_eq_false_iff_ne.2 h2)
  all_goals (try have e3 := beq_eq_false_iff_ne.2 h3)
  all_goals (try have e4 := beq_eq_false_iff_ne.2 h4)
  all_goals (try have e5 := beq_eq_false_iff_ne.2 h5)
  all_goals (try have e6 := beq_eq_false_iff_ne.2 h6)
  all_goals (try have e7 := beq_eq_false_iff_ne.2 h7)
  all_goals simp [cf64, Mg_av, -getElem?_pos, MW.cs, MW.bare, fillA, *]
  all_goals exact ⟨_, rfl, rfl⟩
noncomputable abbrev garlandref06_bare_F := bare_F
def MW.it (m : MW) : IW := ⟨m.ikey, m.ival, m.iver, m.gone⟩
def MW.fine (m : MW) : Bool :=
  if m.kind = 4 then isPlace m.key
  else if m.kind = 5 then m.it.pair
  else if m.kind = 6 then keyB m.ikey
  else if m.kind = 7 then (m.pred == -1 || isPlace m.pred) && listOk m.lst m.src
  else if m.kind = 10 then isPlace m.place
  else if m.kind = 11 then m.code == 0 || m.code == 200
  else if m.kind = 12 then (m.code == 0 && m.it.pair) || (m.code == 201 && (m.ikey == [] && m.ival == 0 && m.iver == 0 && m.gone == false))
  else true
def MW.has (m : MW) : Bool := if m.kind = 6 then m.it.pair && (m.ival == 0 && m.iver == 0 && m.gone == false) else m.fine
noncomputable def fine_F := orcOf (fun m : MW => [Mg m]) (fun _ => True) (fun m => [Bo m.fine])
noncomputable def has_F := orcOf (fun m : MW => [Mg m]) (fun _ => True) (fun m => [Bo m.has])
instance (xs : List AV) (m : MW) [h : AsM xs m] : Tells fine_F [.agg xs] (.d (.bool m.fine)) := ⟨[Mg m], [Bo m.fine], fun hp => by simp only [toDVs, asM_to h], orcM m, rfl, MW.flat_or m xs h, fun N M => by simp [AV.lows, h.l]⟩
instance (xs : List AV) (m : MW) [h : AsM xs m] : Tells has_F [.agg xs] (.d (.bool m.has)) := ⟨[Mg m], [Bo m.has], fun hp => by simp only [toDVs, asM_to h], orcM m, rfl, MW.flat_or m xs h, fun N M => by simp [AV.lows, h.l]⟩
noncomputable def TMF : Tbl := tbl [(76, msg_place_F), (94, msg_Pair_F), (95, msg_key_F), (96, msg_list_F)]
theorem TMF_ok : TblOK Try.prog TMF := tbl_ok (by
  simp only [List.mem_cons, List.not_mem_nil, or_false]
  rintro p (rfl | rfl | rfl | rfl)
  · exact msg_place
  · exact msg_Pair
  · exact msg_key
  · exact msg_list)
instance : Has TMF 76 msg_place_F := ⟨rfl⟩
instance : Has TMF 94 msg_Pair_F := ⟨rfl⟩
instance : Has TMF 95 msg_key_F := ⟨rfl⟩
instance : Has TMF 96 msg_list_F := ⟨rfl⟩

theorem msg_fine : Pure Try.prog 78 fine_F := by
  refine con TMF_ok rfl rfl fun m _ => ⟨rfl, ?_⟩
  obtain ⟨kind, call, src, dest, key, slow, fin, place, pred, lst, ikey, ival, iver, gone, code, hl⟩ := m
  haveI : Fact (lst.length < 9223372036854775808) := ⟨hl⟩
  rcases kinds kind with h | h | h | h | h | h | h | ⟨h1, h2, h3, h4, h5, h6, h7⟩
  all_goals (try subst h)
  all_goals (try have e1 := beq_eq_false_iff_ne.2 h1)
  all_goals (try have e2 := beq_eq_false_iff_ne.2 h2)
  all_goals (try have e3 := beq_eq_false_iff_ne.2 h3)
  all_goals (try have e4 := beq_eq_false_iff_ne.2 h4)
  all_goals (try have e5 := beq_eq_false_iff_ne.2 h5)
  all_goals (try have e6 := beq_eq_false_iff_ne.2 h6)
  all_goals (try have e7 := beq_eq_false_iff_ne.2 h7)
  all_goals simp [cf78, Mg_av, -getElem?_pos, MW.cs, MW.fine, MW.it, fillA, eq_item, *]
  all_goals (try (first | refine WLV_splitN (fun hs => ?_) (fun hs => ?_) | refine WLC_splitN (fun hs => ?_) (fun hs => ?_) | refine WLB_splitN (fun hs => ?_) (fun hs => ?_) | refine WLPV_splitN (fun hs => ?_) (fun hs => ?_) | refine WLPC_splitN (fun hs => ?_) (fun hs => ?_) | refine WLPV_split (fun hs => ?_) (fun hs => ?_) | refine WLPC_split (fun hs => ?_) (fun hs => ?_) | refine WLV_split (fun hs => ?_) (fun hs => ?_) | refine WLC_split (fun hs => ?_) (fun hs => ?_) | refine WLB_split (fun hs => ?_) (fun hs => ?_)))
  all_goals (try (have hs' := hs; simp at hs'))
  all_goals (try simp [*, -getElem?_pos, eq_item, fillA])
  all_goals (try (first | refine WLV_splitN (fun hs => ?_) (fun hs => ?_) | refine WLC_splitN (fun hs => ?_) (fun hs => ?_) | refine WLB_splitN (fun hs => ?_) (fun hs => ?_) | refine WLPV_splitN (fun hs => ?_) (fun hs => ?_) | refine WLPC_splitN (fun hs => ?_) (fun hs => ?_) | refine WLPV_split (fun hs => ?_) (fun hs => ?_) | refine WLPC_split (fun hs => ?_) (fun hs => ?_) | refine WLV_split (fun hs => ?_) (fun hs => ?_) | refine WLC_split (fun hs => ?_) (fun hs => ?_) | refine WLB_split (fun hs => ?_) (fun hs => ?_)))
  all_goals (try (have hs' := hs; simp at hs'))
  all_goals (try simp [*, -getElem?_pos, eq_item, fillA])
  all_goals (try (first | refine WLV_splitN (fun hs => ?_) (fun hs => ?_) | refine WLC_splitN (fun hs => ?_) (fun hs => ?_) | refine WLB_splitN (fun hs => ?_) (fun hs => ?_) | refine WLPV_splitN (fun hs => ?_) (fun hs => ?_) | refine WLPC_splitN (fun hs => ?_) (fun hs => ?_) | refine WLPV_split (fun hs => ?_) (fun hs => ?_) | refine WLPC_split (fun hs => ?_) (fun hs => ?_) | refine WLV_split (fun hs => ?_) (fun hs => ?_) | refine WLC_split (fun hs => ?_) (fun hs => ?_) | refine WLB_split (fun hs => ?_) (fun hs => ?_)))
  all_goals (try (have hs' := hs; simp at hs'))
  all_goals (try simp [*, -getElem?_pos, eq_item, fillA])
noncomputable abbrev msg_fine_F := fine_F
noncomputable def TMH : Tbl := tbl [(62, garlandref06_place_F), (86, garlandref06_Pair_F), (87, garlandref06_list_F)]
theorem TMH_ok : TblOK Try.prog TMH := tbl_ok (by
  simp only [List.mem_cons, List.not_mem_nil, or_false]
  rintro p (rfl | rfl | rfl)
  · exact garlandref06_place
  · exact garlandref06_Pair
  · exact garlandref06_list)
instance : Has TMH 62 garlandref06_place_F := ⟨rfl⟩
instance : Has TMH 86 garlandref06_Pair_F := ⟨rfl⟩
instance : Has TMH 87 garlandref06_list_F := ⟨rfl⟩

theorem garlandref06_has : Pure Try.prog 65 has_F := by
  refine con TMH_ok rfl rfl fun m _ => ⟨rfl, ?_⟩
  obtain ⟨kind, call, src, dest, key, slow, fin, place, pred, lst, ikey, ival, iver, gone, code, hl⟩ := m
  haveI : Fact (lst.length < 9223372036854775808) := ⟨hl⟩
  rcases kinds kind with h | h | h | h | h | h | h | ⟨h1, h2, h3, h4, h5, h6, h7⟩
  all_goals (try subst h)
  all_goals (try have e1 := beq_eq_false_iff_ne.2 h1)
  all_goals (try have e2 := beq_eq_false_iff_ne.2 h2)
  all_goals (try have e3 := beq_eq_false_iff_ne.2 h3)
  all_goals (try have e4 := beq_eq_false_iff_ne.2 h4)
  all_goals (try have e5 := beq_eq_false_iff_ne.2 h5)
  all_goals (try have e6 := beq_eq_false_iff_ne.2 h6)
  all_goals (try have e7 := beq_eq_false_iff_ne.2 h7)
  all_goals simp [cf65, Mg_av, -getElem?_pos, MW.cs, MW.has, MW.fine, MW.it, fillA, eq_item, *]
  all_goals (try (first | refine WLV_splitN (fun hs => ?_) (fun hs => ?_) | refine WLC_splitN (fun hs => ?_) (fun hs => ?_) | refine WLB_splitN (fun hs => ?_) (fun hs => ?_) | refine WLPV_splitN (fun hs => ?_) (fun hs => ?_) | refine WLPC_splitN (fun hs => ?_) (fun hs => ?_) | refine WLPV_split (fun hs => ?_) (fun hs => ?_) | refine WLPC_split (fun hs => ?_) (fun hs => ?_) | refine WLV_split (fun hs => ?_) (fun hs => ?_) | refine WLC_split (fun hs => ?_) (fun hs => ?_) | refine WLB_split (fun hs => ?_) (fun hs => ?_)))
  all_goals (try (have hs' := hs; simp at hs'))
  all_goals (try simp [*, -getElem?_pos, eq_item, fillA])
  all_goals (try (first | refine WLV_splitN (fun hs => ?_) (fun hs => ?_) | refine WLC_splitN (fun hs => ?_) (fun hs => ?_) | refine WLB_splitN (fun hs => ?_) (fun hs => ?_) | refine WLPV_splitN (fun hs => ?_) (fun hs => ?_) | refine WLPC_splitN (fun hs => ?_) (fun hs => ?_) | refine WLPV_split (fun hs => ?_) (fun hs => ?_) | refine WLPC_split (fun hs => ?_) (fun hs => ?_) | refine WLV_split (fun hs => ?_) (fun hs => ?_) | refine WLC_split (fun hs => ?_) (fun hs => ?_) | refine WLB_split (fun hs => ?_) (fun hs => ?_)))
  all_goals (try (have hs' := hs; simp at hs'))
  all_goals (try simp [*, -getElem?_pos, eq_item, fillA])
  all_goals (try (first | refine WLV_splitN (fun hs => ?_) (fun hs => ?_) | refine WLC_splitN (fun hs => ?_) (fun hs => ?_) | refine WLB_splitN (fun hs => ?_) (fun hs => ?_) | refine WLPV_splitN (fun hs => ?_) (fun hs => ?_) | refine WLPC_splitN (fun hs => ?_) (fun hs => ?_) | refine WLPV_split (fun hs => ?_) (fun hs => ?_) | refine WLPC_split (fun hs => ?_) (fun hs => ?_) | refine WLV_split (fun hs => ?_) (fun hs => ?_) | refine WLC_split (fun hs => ?_) (fun hs => ?_) | refine WLB_split (fun hs => ?_) (fun hs => ?_)))
  all_goals (try (have hs' := hs; simp at hs'))
  all_goals (try simp [*, -getElem?_pos, eq_item, fillA])
noncomputable abbrev garlandref06_has_F := has_F
end Go.Proofs.Ytbeocehhclfbiaa.Lite
namespace Go.Proofs.Ytbeocehhclfbiaa.Lite
open Go
attribute [local simp] WL_of WL_nil WL_blk WL_skip WL_label WL_exit WL_goto WL_seq WL_block WL_cond WL_reg WL_ret WJ_nil WJ_ex WJ_gt WJ_rt WJ_exb WJ_gtb WJ_rtb WLO_nil WLO_call WO_mv WO_pick WO_new WO_box WO_ld WO_ldn WO_st WO_off WO_ixa WO_ixs WO_fld WO_fldn WO_ixv WO_ixvn WO_ixb WO_bin WO_eqb WO_isn WO_eqs WO_not WO_conv WO_mkf WO_bld WO_bls WO_sla WO_sls WO_sl0 WO_len WO_app WO_mnx WO_ext WO_nilc wants_none wants_some wantv_b wantv_t WLV_true WLV_false WLC_false WLB_true WLB_false evX_t evX_c evXs_nil evXs_cons look_put look_putN look_cons look_arg0 look_arg stepK binOpA intOp strOp evRes oneOf outs gc toDV AV.dat? I Bo av_s List.map List.append_nil getO putO AV.cellsOf bne WL_dreg WLP_nil WLP_call WP_mv WP_pick WP_new WP_box WP_ld WP_ldn WP_off WP_ixa WP_ixs WP_fld WP_fldn WP_ixv WP_ixvn WP_ixb WP_bin WP_eqb WP_isn WP_eqs WP_not WP_conv WP_mkf WP_bld WP_bls WP_sla WP_sls WP_sl0 WP_len WP_app WP_mnx WP_ext WP_nilc WLPV_true WLPV_false WLPC_false WLC_tells WLPC_tells padH onNm onEx List.getElem?_cons_zero List.getElem?_cons_succ List.getElem?_nil restrict AV.lows lay AV.isCell lowObj AObj.lows WJ_nm AV.lows.go WL_scope onGt_rt onGt_nm onGt_ex WL_sreg WP_st preSt eraseB List.set_cons_zero List.set_cons_succ

def MW.empty (m : MW) : MW := ⟨m.kind, m.call, m.src, m.dest, 0, false, false, 0, 0, [], [], 0, 0, false, 0, by decide⟩
def MW.guard (m : MW) : Bool := decide (1 ≤ m.kind) && decide (m.kind < 13) && isPlace m.src && isPlace m.dest && !(m.src == m.dest)
def MW.calls (m : MW) : Bool := decide (m.asker * 1048576 + 1 ≤ m.call) && decide (m.call < m.asker * 1048576 + 1 + 1048576)
def MW.right (m : MW) : Bool := m.guard && m.calls && m.bare.same m.empty && m.has
instance (xs : List AV) (m : MW) [h : AsM xs m] : Tells asker_F [.agg xs] (.d (.int .i64 m.asker)) := ⟨[Mg m], [I m.asker], fun hp => by simp only [toDVs, asM_to h], orcM m, rfl, MW.flat_or m xs h, fun N M => by simp [AV.lows, h.l]⟩
noncomputable def mright_F := orcOf (fun m : MW => [Mg m]) (fun m => m.call < 9223372036854775808) (fun m => [Bo m.right])
theorem orcMc {out : MW → List DV} {m : MW} (hm : m.call < 9223372036854775808) : orcOf (fun m : MW => [Mg m]) (fun m => m.call < 9223372036854775808) out [Mg m] = some (out m) :=
  orcOf_eq (enc := fun m : MW => [Mg m]) (x := m) hm (fun y h => by
    simp only [Mg, List.cons.injEq, DV.g.injEq, and_true] at h
    exact MW.inj h)
instance (xs : List AV) (m : MW) [h : AsM xs m] [hm : Fact (m.call < 9223372036854775808)] : Tells mright_F [.agg xs] (.d (.bool m.right)) := ⟨[Mg m], [Bo m.right], fun hp => by simp only [toDVs, asM_to h], orcMc hm.out, rfl, MW.flat_or m xs h, fun N M => by simp [AV.lows, h.l]⟩
theorem asker_lo {m : MW} (h1 : isPlace m.src = true) (h2 : isPlace m.dest = true) : 0 ≤ m.asker ∧ m.asker < 65536 := by
  simp [isPlace] at h1 h2
  unfold MW.asker
  cases m.asks <;> simp <;> omega
noncomputable def TRM : Tbl := tbl [(62, garlandref06_place_F), (63, garlandref06_Asker_F), (64, garlandref06_bare_F), (19, garlandref06_Same_F), (65, garlandref06_has_F)]
theorem TRM_ok : TblOK Try.prog TRM := tbl_ok (by
  simp only [List.mem_cons, List.not_mem_nil, or_false]
  rintro p (rfl | rfl | rfl | rfl | rfl)
  · exact garlandref06_place
  · exact garlandref06_Asker
  · exact garlandref06_bare
  · exact garlandref06_Same
  · exact garlandref06_has)
instance : Has TRM 62 garlandref06_place_F := ⟨rfl⟩
instance : Has TRM 63 garlandref06_Asker_F := ⟨rfl⟩
instance : Has TRM 64 garlandref06_bare_F := ⟨rfl⟩
instance : Has TRM 19 garlandref06_Same_F := ⟨rfl⟩
instance : Has TRM 65 garlandref06_has_F := ⟨rfl⟩

theorem garlandref06_Right : Pure Try.prog 28 mright_F := by
  refine con TRM_ok rfl rfl fun m hm => ⟨rfl, ?_⟩
  have hw1 : isPlace m.src = true → isPlace m.dest = true → IntKind.i64.wrap (m.asker * 1048576) = m.asker * 1048576 := fun h1 h2 => by
    have := asker_lo h1 h2; rw [wrap64]; split <;> omega
  have hw2 : isPlace m.src = true → isPlace m.dest = true → IntKind.i64.wrap (m.asker * 1048576 + 1) = m.asker * 1048576 + 1 := fun h1 h2 => by
    have := asker_lo h1 h2; rw [wrap64]; split <;> omega
  have hw3 : isPlace m.src = true → isPlace m.dest = true → IntKind.i64.wrap (m.asker * 1048576 + 1 + 1048576) = m.asker * 1048576 + 1 + 1048576 := fun h1 h2 => by
    have := asker_lo h1 h2; rw [wrap64]; split <;> omega
  simp [cf28, Mg_av, -getElem?_pos, mcs_0, mcs_1, mcs_2, mcs_3, mcs_len, mcs_take, mcs_all, mcs_lows, fillA]
  all_goals (try (first | refine WLV_splitN (fun hs => ?_) (fun hs => ?_) | refine WLC_splitN (fun hs => ?_) (fun hs => ?_) | refine WLB_splitN (fun hs => ?_) (fun hs => ?_) | refine WLPV_splitN (fun hs => ?_) (fun hs => ?_) | refine WLPC_splitN (fun hs => ?_) (fun hs => ?_) | refine WLPV_split (fun hs => ?_) (fun hs => ?_) | refine WLPC_split (fun hs => ?_) (fun hs => ?_) | refine WLV_split (fun hs => ?_) (fun hs => ?_) | refine WLC_split (fun hs => ?_) (fun hs => ?_) | refine WLB_split (fun hs => ?_) (fun hs => ?_)))
  all_goals (try (have hs' := hs; simp at hs'))
  all_goals (try simp [*, -getElem?_pos, mcs_0, mcs_1, mcs_2, mcs_3, mcs_len, mcs_take, mcs_all, mcs_lows, fillA])
  all_goals (try (first | refine WLV_splitN (fun hs => ?_) (fun hs => ?_) | refine WLC_splitN (fun hs => ?_) (fun hs => ?_) | refine WLB_splitN (fun hs => ?_) (fun hs => ?_) | refine WLPV_splitN (fun hs => ?_) (fun hs => ?_) | refine WLPC_splitN (fun hs => ?_) (fun hs => ?_) | refine WLPV_split (fun hs => ?_) (fun hs => ?_) | refine WLPC_split (fun hs => ?_) (fun hs => ?_) | refine WLV_split (fun hs => ?_) (fun hs => ?_) | refine WLC_split (fun hs => ?_) (fun hs => ?_) | refine WLB_split (fun hs => ?_) (fun hs => ?_)))
  all_goals (try (have hs' := hs; simp at hs'))
  all_goals (try simp [*, -getElem?_pos, mcs_0, mcs_1, mcs_2, mcs_3, mcs_len, mcs_take, mcs_all, mcs_lows, fillA])
  all_goals (try (first | refine WLV_splitN (fun hs => ?_) (fun hs => ?_) | refine WLC_splitN (fun hs => ?_) (fun hs => ?_) | refine WLB_splitN (fun hs => ?_) (fun hs => ?_) | refine WLPV_splitN (fun hs => ?_) (fun hs => ?_) | refine WLPC_splitN (fun hs => ?_) (fun hs => ?_) | refine WLPV_split (fun hs => ?_) (fun hs => ?_) | refine WLPC_split (fun hs => ?_) (fun hs => ?_) | refine WLV_split (fun hs => ?_) (fun hs => ?_) | refine WLC_split (fun hs => ?_) (fun hs => ?_) | refine WLB_split (fun hs => ?_) (fun hs => ?_)))
  all_goals (try (have hs' := hs; simp at hs'))
  all_goals (try simp [*, -getElem?_pos, mcs_0, mcs_1, mcs_2, mcs_3, mcs_len, mcs_take, mcs_all, mcs_lows, fillA])
  all_goals (try (first | refine WLV_splitN (fun hs => ?_) (fun hs => ?_) | refine WLC_splitN (fun hs => ?_) (fun hs => ?_) | refine WLB_splitN (fun hs => ?_) (fun hs => ?_) | refine WLPV_splitN (fun hs => ?_) (fun hs => ?_) | refine WLPC_splitN (fun hs => ?_) (fun hs => ?_) | refine WLPV_split (fun hs => ?_) (fun hs => ?_) | refine WLPC_split (fun hs => ?_) (fun hs => ?_) | refine WLV_split (fun hs => ?_) (fun hs => ?_) | refine WLC_split (fun hs => ?_) (fun hs => ?_) | refine WLB_split (fun hs => ?_) (fun hs => ?_)))
  all_goals (try (have hs' := hs; simp at hs'))
  all_goals (try simp [*, -getElem?_pos, mcs_0, mcs_1, mcs_2, mcs_3, mcs_len, mcs_take, mcs_all, mcs_lows, fillA])
  all_goals (try (first | refine WLV_splitN (fun hs => ?_) (fun hs => ?_) | refine WLC_splitN (fun hs => ?_) (fun hs => ?_) | refine WLB_splitN (fun hs => ?_) (fun hs => ?_) | refine WLPV_splitN (fun hs => ?_) (fun hs => ?_) | refine WLPC_splitN (fun hs => ?_) (fun hs => ?_) | refine WLPV_split (fun hs => ?_) (fun hs => ?_) | refine WLPC_split (fun hs => ?_) (fun hs => ?_) | refine WLV_split (fun hs => ?_) (fun hs => ?_) | refine WLC_split (fun hs => ?_) (fun hs => ?_) | refine WLB_split (fun hs => ?_) (fun hs => ?_)))
  all_goals (try (have hs' := hs; simp at hs'))
  all_goals (try simp [*, -getElem?_pos, mcs_0, mcs_1, mcs_2, mcs_3, mcs_len, mcs_take, mcs_all, mcs_lows, fillA])
  all_goals (try (first | refine WLV_splitN (fun hs => ?_) (fun hs => ?_) | refine WLC_splitN (fun hs => ?_) (fun hs => ?_) | refine WLB_splitN (fun hs => ?_) (fun hs => ?_) | refine WLPV_splitN (fun hs => ?_) (fun hs => ?_) | refine WLPC_splitN (fun hs => ?_) (fun hs => ?_) | refine WLPV_split (fun hs => ?_) (fun hs => ?_) | refine WLPC_split (fun hs => ?_) (fun hs => ?_) | refine WLV_split (fun hs => ?_) (fun hs => ?_) | refine WLC_split (fun hs => ?_) (fun hs => ?_) | refine WLB_split (fun hs => ?_) (fun hs => ?_)))
  all_goals (try (have hs' := hs; simp at hs'))
  all_goals (try simp [*, -getElem?_pos, mcs_0, mcs_1, mcs_2, mcs_3, mcs_len, mcs_take, mcs_all, mcs_lows, fillA])
  all_goals (try (first | refine WLV_splitN (fun hs => ?_) (fun hs => ?_) | refine WLC_splitN (fun hs => ?_) (fun hs => ?_) | refine WLB_splitN (fun hs => ?_) (fun hs => ?_) | refine WLPV_splitN (fun hs => ?_) (fun hs => ?_) | refine WLPC_splitN (fun hs => ?_) (fun hs => ?_) | refine WLPV_split (fun hs => ?_) (fun hs => ?_) | refine WLPC_split (fun hs => ?_) (fun hs => ?_) | refine WLV_split (fun hs => ?_) (fun hs => ?_) | refine WLC_split (fun hs => ?_) (fun hs => ?_) | refine WLB_split (fun hs => ?_) (fun hs => ?_)))
  all_goals (try (have hs' := hs; simp at hs'))
  all_goals (try simp [*, -getElem?_pos, mcs_0, mcs_1, mcs_2, mcs_3, mcs_len, mcs_take, mcs_all, mcs_lows, fillA])
  all_goals (try (first | refine WLV_splitN (fun hs => ?_) (fun hs => ?_) | refine WLC_splitN (fun hs => ?_) (fun hs => ?_) | refine WLB_splitN (fun hs => ?_) (fun hs => ?_) | refine WLPV_splitN (fun hs => ?_) (fun hs => ?_) | refine WLPC_splitN (fun hs => ?_) (fun hs => ?_) | refine WLPV_split (fun hs => ?_) (fun hs => ?_) | refine WLPC_split (fun hs => ?_) (fun hs => ?_) | refine WLV_split (fun hs => ?_) (fun hs => ?_) | refine WLC_split (fun hs => ?_) (fun hs => ?_) | refine WLB_split (fun hs => ?_) (fun hs => ?_)))
  all_goals (try (have hs' := hs; simp at hs'))
  all_goals (try simp [*, -getElem?_pos, mcs_0, mcs_1, mcs_2, mcs_3, mcs_len, mcs_take, mcs_all, mcs_lows, fillA])
  all_goals first
    | (simp [MW.right, MW.guard, MW.calls, MW.empty, *]; done)
    | (have h3 : m.right = false := (by unfold MW.right MW.guard MW.calls; simp; omega); exact h3)

noncomputable abbrev garlandref06_Right_F := mright_F

def MW.off (m : MW) : MW := if m.kind = 6 then { m with ikey := [] } else m.bare
theorem off_right {m : MW} : (m.fine && m.off.same m.empty) = (m.bare.same m.empty && m.has) := by
  obtain ⟨kind, call, src, dest, key, slow, fin, place, pred, lst, ikey, ival, iver, gone, code, hl⟩ := m
  by_cases h : kind = 6
  · subst h
    simp only [MW.off, MW.bare, MW.has, MW.fine, MW.same, MW.empty, MW.it, IW.pair, if_true]
    simp
    cases h1 : ival == 0 with
    | false => simp at h1; simp [h1]
    | true =>
      cases h2 : iver == 0 with
      | false => simp at h2; simp [h2]
      | true =>
        simp at h1 h2; subst h1 h2
        cases gone <;> cases key == 0 <;> cases slow <;> cases fin <;> cases place == 0 <;> cases pred == 0 <;> cases keyB ikey <;> cases code == 0 <;> simp [within]
  · have h1 : MW.off ⟨kind, call, src, dest, key, slow, fin, place, pred, lst, ikey, ival, iver, gone, code, hl⟩ = MW.bare ⟨kind, call, src, dest, key, slow, fin, place, pred, lst, ikey, ival, iver, gone, code, hl⟩ := by simp [MW.off, h]
    have h2 : MW.has ⟨kind, call, src, dest, key, slow, fin, place, pred, lst, ikey, ival, iver, gone, code, hl⟩ = MW.fine ⟨kind, call, src, dest, key, slow, fin, place, pred, lst, ikey, ival, iver, gone, code, hl⟩ := by simp [MW.has, h]
    rw [h1, h2, Bool.and_comm]
theorem call_quo {m : MW} (h1 : isPlace m.src = true) (h2 : isPlace m.dest = true) (hc : 1 ≤ m.call) : (Int.tdiv (m.call - 1) 1048576 == m.asker) = m.calls := by
  have := asker_lo h1 h2
  rw [Int.tdiv_eq_ediv_of_nonneg (by omega)]
  unfold MW.calls
  rw [Bool.eq_iff_iff]
  simp
  omega
theorem right_off (m : MW) : m.right = (m.guard && m.calls && (m.fine && m.off.same m.empty)) := by
  unfold MW.right; rw [off_right, Bool.and_assoc (m.guard && m.calls)]
theorem calls_lo {m : MW} (h1 : isPlace m.src = true) (h2 : isPlace m.dest = true) (hc : m.call < 1) : m.calls = false := by
  have := asker_lo h1 h2
  unfold MW.calls; simp; omega
noncomputable def TMR : Tbl := tbl [(76, msg_place_F), (77, msg_Asker_F), (78, msg_fine_F), (80, msg_Same_F)]
theorem TMR_ok : TblOK Try.prog TMR := tbl_ok (by
  simp only [List.mem_cons, List.not_mem_nil, or_false]
  rintro p (rfl | rfl | rfl | rfl)
  · exact msg_place
  · exact msg_Asker
  · exact msg_fine
  · exact msg_Same)
instance : Has TMR 76 msg_place_F := ⟨rfl⟩
instance : Has TMR 77 msg_Asker_F := ⟨rfl⟩
instance : Has TMR 78 msg_fine_F := ⟨rfl⟩
instance : Has TMR 80 msg_Same_F := ⟨rfl⟩

theorem msg_Right : Pure Try.prog 55 mright_F := by
  refine con TMR_ok rfl rfl fun m hm => ⟨rfl, ?_⟩
  have hq : isPlace m.src = true → isPlace m.dest = true → decide (m.call < 1) = false → (Int.tdiv (m.call - 1) 1048576 == m.asker) = m.calls := fun h1 h2 h3 => call_quo h1 h2 (by simpa using h3)
  have hw1 : decide (m.call < 1) = false → IntKind.i64.wrap (m.call - 1) = m.call - 1 := fun h => by
    simp at h; rw [wrap64]; split <;> omega
  have hw2 : isPlace m.src = true → isPlace m.dest = true → decide (m.call < 1) = false → IntKind.i64.wrap (Int.tdiv (m.call - 1) 1048576) = Int.tdiv (m.call - 1) 1048576 := fun h1 h2 h => by
    simp at h
    rw [Int.tdiv_eq_ediv_of_nonneg (by omega), wrap64]; split <;> omega
  simp [cf55, Mg_av, -getElem?_pos, mcs_0, mcs_1, mcs_2, mcs_3, mcs_len, mcs_take, mcs_all, mcs_lows, fillA]
  all_goals (try (first | refine WLV_splitN (fun hs => ?_) (fun hs => ?_) | refine WLC_splitN (fun hs => ?_) (fun hs => ?_) | refine WLB_splitN (fun hs => ?_) (fun hs => ?_) | refine WLPV_splitN (fun hs => ?_) (fun hs => ?_) | refine WLPC_splitN (fun hs => ?_) (fun hs => ?_) | refine WLPV_split (fun hs => ?_) (fun hs => ?_) | refine WLPC_split (fun hs => ?_) (fun hs => ?_) | refine WLV_split (fun hs => ?_) (fun hs => ?_) | refine WLC_split (fun hs => ?_) (fun hs => ?_) | refine WLB_split (fun hs => ?_) (fun hs => ?_)))
  all_goals (try (have hs' := hs; simp at hs'))
  all_goals (try simp [*, -getElem?_pos, mcs_0, mcs_1, mcs_2, mcs_3, mcs_len, mcs_take, mcs_all, mcs_lows, fillA])
  all_goals (try (first | refine WLV_splitN (fun hs => ?_) (fun hs => ?_) | refine WLC_splitN (fun hs => ?_) (fun hs => ?_) | refine WLB_splitN (fun hs => ?_) (fun hs => ?_) | refine WLPV_splitN (fun hs => ?_) (fun hs => ?_) | refine WLPC_splitN (fun hs => ?_) (fun hs => ?_) | refine WLPV_split (fun hs => ?_) (fun hs => ?_) | refine WLPC_split (fun hs => ?_) (fun hs => ?_) | refine WLV_split (fun hs => ?_) (fun hs => ?_) | refine WLC_split (fun hs => ?_) (fun hs => ?_) | refine WLB_split (fun hs => ?_) (fun hs => ?_)))
  all_goals (try (have hs' := hs; simp at hs'))
  all_goals (try simp [*, -getElem?_pos, mcs_0, mcs_1, mcs_2, mcs_3, mcs_len, mcs_take, mcs_all, mcs_lows, fillA])
  all_goals (try (first | refine WLV_splitN (fun hs => ?_) (fun hs => ?_) | refine WLC_splitN (fun hs => ?_) (fun hs => ?_) | refine WLB_splitN (fun hs => ?_) (fun hs => ?_) | refine WLPV_splitN (fun hs => ?_) (fun hs => ?_) | refine WLPC_splitN (fun hs => ?_) (fun hs => ?_) | refine WLPV_split (fun hs => ?_) (fun hs => ?_) | refine WLPC_split (fun hs => ?_) (fun hs => ?_) | refine WLV_split (fun hs => ?_) (fun hs => ?_) | refine WLC_split (fun hs => ?_) (fun hs => ?_) | refine WLB_split (fun hs => ?_) (fun hs => ?_)))
  all_goals (try (have hs' := hs; simp at hs'))
  all_goals (try simp [*, -getElem?_pos, mcs_0, mcs_1, mcs_2, mcs_3, mcs_len, mcs_take, mcs_all, mcs_lows, fillA])
  all_goals (try (first | refine WLV_splitN (fun hs => ?_) (fun hs => ?_) | refine WLC_splitN (fun hs => ?_) (fun hs => ?_) | refine WLB_splitN (fun hs => ?_) (fun hs => ?_) | refine WLPV_splitN (fun hs => ?_) (fun hs => ?_) | refine WLPC_splitN (fun hs => ?_) (fun hs => ?_) | refine WLPV_split (fun hs => ?_) (fun hs => ?_) | refine WLPC_split (fun hs => ?_) (fun hs => ?_) | refine WLV_split (fun hs => ?_) (fun hs => ?_) | refine WLC_split (fun hs => ?_) (fun hs => ?_) | refine WLB_split (fun hs => ?_) (fun hs => ?_)))
  all_goals (try (have hs' := hs; simp at hs'))
  all_goals (try simp [*, -getElem?_pos, mcs_0, mcs_1, mcs_2, mcs_3, mcs_len, mcs_take, mcs_all, mcs_lows, fillA])
  all_goals (try (first | refine WLV_splitN (fun hs => ?_) (fun hs => ?_) | refine WLC_splitN (fun hs => ?_) (fun hs => ?_) | refine WLB_splitN (fun hs => ?_) (fun hs => ?_) | refine WLPV_splitN (fun hs => ?_) (fun hs => ?_) | refine WLPC_splitN (fun hs => ?_) (fun hs => ?_) | refine WLPV_split (fun hs => ?_) (fun hs => ?_) | refine WLPC_split (fun hs => ?_) (fun hs => ?_) | refine WLV_split (fun hs => ?_) (fun hs => ?_) | refine WLC_split (fun hs => ?_) (fun hs => ?_) | refine WLB_split (fun hs => ?_) (fun hs => ?_)))
  all_goals (try (have hs' := hs; simp at hs'))
  all_goals (try simp [*, -getElem?_pos, mcs_0, mcs_1, mcs_2, mcs_3, mcs_len, mcs_take, mcs_all, mcs_lows, fillA])
  all_goals try (
    refine onGt_go (rest := .seq .skip (.seq (.reg (⟨some 2, .mv (.c (.d (.bool false))), none⟩ :: [])) .ret)) rfl ?_
    simp [-getElem?_pos, mcs_all]
    first | (simp [MW.right, MW.guard, *]; done) | (have h3 : m.right = false := (by unfold MW.right MW.guard; simp; omega); exact h3))
  all_goals (try (first | refine WLV_splitN (fun hs => ?_) (fun hs => ?_) | refine WLC_splitN (fun hs => ?_) (fun hs => ?_) | refine WLB_splitN (fun hs => ?_) (fun hs => ?_) | refine WLPV_splitN (fun hs => ?_) (fun hs => ?_) | refine WLPC_splitN (fun hs => ?_) (fun hs => ?_) | refine WLPV_split (fun hs => ?_) (fun hs => ?_) | refine WLPC_split (fun hs => ?_) (fun hs => ?_) | refine WLV_split (fun hs => ?_) (fun hs => ?_) | refine WLC_split (fun hs => ?_) (fun hs => ?_) | refine WLB_split (fun hs => ?_) (fun hs => ?_)))
  all_goals (try (have hs' := hs; simp at hs'))
  all_goals (try simp [*, -getElem?_pos, mcs_0, mcs_1, mcs_2, mcs_3, mcs_len, mcs_take, mcs_all, mcs_lows, fillA])
  all_goals (try (first | refine WLV_splitN (fun hs => ?_) (fun hs => ?_) | refine WLC_splitN (fun hs => ?_) (fun hs => ?_) | refine WLB_splitN (fun hs => ?_) (fun hs => ?_) | refine WLPV_splitN (fun hs => ?_) (fun hs => ?_) | refine WLPC_splitN (fun hs => ?_) (fun hs => ?_) | refine WLPV_split (fun hs => ?_) (fun hs => ?_) | refine WLPC_split (fun hs => ?_) (fun hs => ?_) | refine WLV_split (fun hs => ?_) (fun hs => ?_) | refine WLC_split (fun hs => ?_) (fun hs => ?_) | refine WLB_split (fun hs => ?_) (fun hs => ?_)))
  all_goals (try (have hs' := hs; simp at hs'))
  all_goals (try simp [*, -getElem?_pos, mcs_0, mcs_1, mcs_2, mcs_3, mcs_len, mcs_take, mcs_all, mcs_lows, fillA])
  all_goals (try (first | refine WLV_splitN (fun hs => ?_) (fun hs => ?_) | refine WLC_splitN (fun hs => ?_) (fun hs => ?_) | refine WLB_splitN (fun hs => ?_) (fun hs => ?_) | refine WLPV_splitN (fun hs => ?_) (fun hs => ?_) | refine WLPC_splitN (fun hs => ?_) (fun hs => ?_) | refine WLPV_split (fun hs => ?_) (fun hs => ?_) | refine WLPC_split (fun hs => ?_) (fun hs => ?_) | refine WLV_split (fun hs => ?_) (fun hs => ?_) | refine WLC_split (fun hs => ?_) (fun hs => ?_) | refine WLB_split (fun hs => ?_) (fun hs => ?_)))
  all_goals (try (have hs' := hs; simp at hs'))
  all_goals (try simp [*, -getElem?_pos, mcs_0, mcs_1, mcs_2, mcs_3, mcs_len, mcs_take, mcs_all, mcs_lows, fillA])
  all_goals try (
    refine onGt_go (rest := .seq .skip (.seq (.reg (⟨some 2, .mv (.c (.d (.bool false))), none⟩ :: [])) .ret)) rfl ?_
    simp [-getElem?_pos, mcs_all]
    first | (simp [right_off, *]; done) | (have h3 := calls_lo (by assumption) (by assumption) hs'; simp [right_off, h3]))
  have hfin : m.right = m.off.same m.empty := by
    rw [right_off]
    have hg : m.guard = true := by unfold MW.guard; simp [*]
    simp [*]
  rw [hfin]
  clear hfin hw1 hw2 hq
  obtain ⟨kind, call, src, dest, key, slow, fin, place, pred, lst, ikey, ival, iver, gone, code, hl⟩ := m
  haveI : Fact (lst.length < 9223372036854775808) := ⟨hl⟩
  rcases kinds kind with h | h | h | h | h | h | h | ⟨h1, h2, h3, h4, h5, h6, h7⟩
  all_goals (try subst h)
  all_goals (try have e1 := beq_eq_false_iff_ne.2 h1)
  all_goals (try have e2 := beq_eq_false_iff_ne.2 h2)
  all_goals (try have e3 := beq_eq_false_iff_ne.2 h3)
  all_goals (try have e4 := beq_eq_false_iff_ne.2 h4)
  all_goals (try have e5 := beq_eq_false_iff_ne.2 h5)
  all_goals (try have e6 := beq_eq_false_iff_ne.2 h6)
  all_goals (try have e7 := beq_eq_false_iff_ne.2 h7)
  all_goals (
    refine WLC_fn (cf := cf79) rfl rfl rfl ?_
    simp [cf79, afterC, -getElem?_pos, MW.cs, MW.off, MW.bare, MW.empty, fillA, *])
noncomputable abbrev msg_Right_F := mright_F
end Go.Proofs.Ytbeocehhclfbiaa.Lite
namespace Go.Proofs.Ytbeocehhclfbiaa.Lite
open Go
attribute [local simp] WL_of WL_nil WL_blk WL_skip WL_label WL_exit WL_goto WL_seq WL_block WL_cond WL_reg WL_ret WJ_nil WJ_ex WJ_gt WJ_rt WJ_exb WJ_gtb WJ_rtb WLO_nil WLO_call WO_mv WO_pick WO_new WO_box WO_ld WO_ldn WO_st WO_off WO_ixa WO_ixs WO_fld WO_fldn WO_ixv WO_ixvn WO_ixb WO_bin WO_eqb WO_isn WO_eqs WO_not WO_conv WO_mkf WO_bld WO_bls WO_sla WO_sls WO_sl0 WO_len WO_app WO_mnx WO_ext WO_nilc wants_none wants_some wantv_b wantv_t WLV_true WLV_false WLC_false WLB_true WLB_false evX_t evX_c evXs_nil evXs_cons look_put look_putN look_cons look_arg0 look_arg stepK binOpA intOp strOp evRes oneOf outs gc toDV AV.dat? I Bo av_s List.map List.append_nil getO putO AV.cellsOf bne WL_dreg WLP_nil WLP_call WP_mv WP_pick WP_new WP_box WP_ld WP_ldn WP_off WP_ixa WP_ixs WP_fld WP_fldn WP_ixv WP_ixvn WP_ixb WP_bin WP_eqb WP_isn WP_eqs WP_not WP_conv WP_mkf WP_bld WP_bls WP_sla WP_sls WP_sl0 WP_len WP_app WP_mnx WP_ext WP_nilc WLPV_true WLPV_false WLPC_false WLC_tells WLPC_tells padH onNm onEx List.getElem?_cons_zero List.getElem?_cons_succ List.getElem?_nil restrict AV.lows lay AV.isCell lowObj AObj.lows WJ_nm AV.lows.go WL_scope onGt_rt onGt_nm onGt_ex WL_sreg WP_st preSt eraseB List.set_cons_zero List.set_cons_succ

def answer (v : VW) (m : MW) : MW := bif v.right && m.right && (m.kind == 4) && (m.dest == v.id) then ⟨10, m.call, m.dest, m.src, 0, false, (v.next m.key m.slow).2, (v.next m.key m.slow).1, 0, [], [], 0, 0, false, 0, by decide⟩ else MW.zero
noncomputable def answer_F := orcOf (fun p : VW × MW => [V p.1, Mg p.2]) (fun p => p.2.call < 9223372036854775808) (fun p => [Mg (answer p.1 p.2)])
theorem orcVM {out : VW × MW → List DV} {v : VW} {m : MW} (hm : m.call < 9223372036854775808) : orcOf (fun p : VW × MW => [V p.1, Mg p.2]) (fun p => p.2.call < 9223372036854775808) out [V v, Mg m] = some (out (v, m)) :=
  orcOf_eq (enc := fun p : VW × MW => [V p.1, Mg p.2]) (x := (v, m)) hm (fun y h => by
    simp only [V, Mg, List.cons.injEq, DV.g.injEq, and_true] at h
    exact Prod.ext (VW.inj h.1) (MW.inj h.2))
theorem toV (v : VW) (hp : Heap) : toDV hp (.agg v.cs) = some (V v) := by simp [toDV, cs_dats, V]
theorem cs_tied (v : VW) : (AV.agg v.cs).tied = false := by
  simp [AV.tied, VW.cs]
instance (v : VW) (xs : List AV) (m : MW) [h : AsM xs m] [hm : Fact (m.call < 9223372036854775808)] : Tells answer_F [.agg v.cs, .agg xs] (.agg (answer v m).cs) :=
  ⟨[V v, Mg m], [Mg (answer v m)], fun hp => by simp only [toDVs, toV, asM_to h], orcVM hm.out, rfl, by simp [h.t, cs_tied], fun N M => by simp [AV.lows, h.l, cs_lows]⟩
theorem tell_cs {m : MW} (hk : m.kind = 4) : m.tell.cs = [.d (.int .u8 10), .d (.int .i64 m.call), .d (.int .i64 m.dest), .d (.int .i64 m.src), .d (.int .i64 0), .d (.bool false), .d (.bool false), .d (.int .i64 0), .d (.int .i64 0), vsI [], .d (.str []), .d (.int .i64 0), .d (.int .i64 0), .d (.bool false), .d (.int .i64 0)] := by
  have ha : m.asks = true := by simp [MW.asks, hk]
  simp [MW.tell, ha, MW.cs, hk, MW.zero]
noncomputable def TAN : Tbl := tbl [(55, msg_Right_F), (52, view_Right_F), (56, msg_Tell_F), (15, hop_Next_F)]
theorem TAN_ok : TblOK Try.prog TAN := tbl_ok (by
  simp only [List.mem_cons, List.not_mem_nil, or_false]
  rintro p (rfl | rfl | rfl | rfl)
  · exact msg_Right
  · exact view_Right
  · exact msg_Tell
  · exact hop_Next)
instance : Has TAN 55 msg_Right_F := ⟨rfl⟩
instance : Has TAN 52 view_Right_F := ⟨rfl⟩
instance : Has TAN 56 msg_Tell_F := ⟨rfl⟩
instance : Has TAN 15 hop_Next_F := ⟨rfl⟩

theorem hop_Answer : Pure Try.prog 20 answer_F := by
  refine con TAN_ok rfl rfl fun ⟨v, m⟩ hm => ⟨rfl, ?_⟩
  have hm : m.call < 9223372036854775808 := hm
  haveI : Fact (m.call < 9223372036854775808) := ⟨hm⟩
  have htc : (m.kind == 4) = true → m.tell.cs = _ := fun h => tell_cs (m := m) (by simpa using h)
  simp [cf20, Mg_av, V_av, -getElem?_pos, cs_0, cs_length, cs_take, cs_all, cs_lows, mcs_0, mcs_1, mcs_2, mcs_3, mcs_4, mcs_5, mcs_len, mcs_take, mcs_all, mcs_lows, fillA]
  all_goals (try (first | refine WLV_splitN (fun hs => ?_) (fun hs => ?_) | refine WLC_splitN (fun hs => ?_) (fun hs => ?_) | refine WLB_splitN (fun hs => ?_) (fun hs => ?_) | refine WLPV_splitN (fun hs => ?_) (fun hs => ?_) | refine WLPC_splitN (fun hs => ?_) (fun hs => ?_) | refine WLPV_split (fun hs => ?_) (fun hs => ?_) | refine WLPC_split (fun hs => ?_) (fun hs => ?_) | refine WLV_split (fun hs => ?_) (fun hs => ?_) | refine WLC_split (fun hs => ?_) (fun hs => ?_) | refine WLB_split (fun hs => ?_) (fun hs => ?_)))
  all_goals (try (have hs' := hs; simp at hs'))
  all_goals (try simp [*, -getElem?_pos, cs_0, cs_length, cs_take, cs_all, cs_lows, mcs_0, mcs_1, mcs_2, mcs_3, mcs_4, mcs_5, mcs_len, mcs_take, mcs_all, mcs_lows, fillA])
  all_goals (try (first | refine WLV_splitN (fun hs => ?_) (fun hs => ?_) | refine WLC_splitN (fun hs => ?_) (fun hs => ?_) | refine WLB_splitN (fun hs => ?_) (fun hs => ?_) | refine WLPV_splitN (fun hs => ?_) (fun hs => ?_) | refine WLPC_splitN (fun hs => ?_) (fun hs => ?_) | refine WLPV_split (fun hs => ?_) (fun hs => ?_) | refine WLPC_split (fun hs => ?_) (fun hs => ?_) | refine WLV_split (fun hs => ?_) (fun hs => ?_) | refine WLC_split (fun hs => ?_) (fun hs => ?_) | refine WLB_split (fun hs => ?_) (fun hs => ?_)))
  all_goals (try (have hs' := hs; simp at hs'))
  all_goals (try simp [*, -getElem?_pos, cs_0, cs_length, cs_take, cs_all, cs_lows, mcs_0, mcs_1, mcs_2, mcs_3, mcs_4, mcs_5, mcs_len, mcs_take, mcs_all, mcs_lows, fillA])
  all_goals (try (first | refine WLV_splitN (fun hs => ?_) (fun hs => ?_) | refine WLC_splitN (fun hs => ?_) (fun hs => ?_) | refine WLB_splitN (fun hs => ?_) (fun hs => ?_) | refine WLPV_splitN (fun hs => ?_) (fun hs => ?_) | refine WLPC_splitN (fun hs => ?_) (fun hs => ?_) | refine WLPV_split (fun hs => ?_) (fun hs => ?_) | refine WLPC_split (fun hs => ?_) (fun hs => ?_) | refine WLV_split (fun hs => ?_) (fun hs => ?_) | refine WLC_split (fun hs => ?_) (fun hs => ?_) | refine WLB_split (fun hs => ?_) (fun hs => ?_)))
  all_goals (try (have hs' := hs; simp at hs'))
  all_goals (try simp [*, -getElem?_pos, cs_0, cs_length, cs_take, cs_all, cs_lows, mcs_0, mcs_1, mcs_2, mcs_3, mcs_4, mcs_5, mcs_len, mcs_take, mcs_all, mcs_lows, fillA])
  all_goals (try (first | refine WLV_splitN (fun hs => ?_) (fun hs => ?_) | refine WLC_splitN (fun hs => ?_) (fun hs => ?_) | refine WLB_splitN (fun hs => ?_) (fun hs => ?_) | refine WLPV_splitN (fun hs => ?_) (fun hs => ?_) | refine WLPC_splitN (fun hs => ?_) (fun hs => ?_) | refine WLPV_split (fun hs => ?_) (fun hs => ?_) | refine WLPC_split (fun hs => ?_) (fun hs => ?_) | refine WLV_split (fun hs => ?_) (fun hs => ?_) | refine WLC_split (fun hs => ?_) (fun hs => ?_) | refine WLB_split (fun hs => ?_) (fun hs => ?_)))
  all_goals (try (have hs' := hs; simp at hs'))
  all_goals (try simp [*, -getElem?_pos, cs_0, cs_length, cs_take, cs_all, cs_lows, mcs_0, mcs_1, mcs_2, mcs_3, mcs_4, mcs_5, mcs_len, mcs_take, mcs_all, mcs_lows, fillA])
  all_goals first
    | (refine onGt_go (rest := (.seq .skip (.seq (.reg (⟨(some 38), .ldn 15 (.t 4), none⟩ ::
    ⟨none, .st 15 (.t 4) (.t 38), none⟩ ::
    []))
  .ret))) rfl ?_
       simp [-getElem?_pos, cs_all, mcs_all]
       have ha : answer v m = MW.zero := by simp [answer, *]
       rw [ha]; exact ⟨_, rfl, rfl⟩)
    | (have ha : answer v m = ⟨10, m.call, v.id, m.src, 0, false, (v.next m.key m.slow).2, (v.next m.key m.slow).1, 0, [], [], 0, 0, false, 0, by decide⟩ := by simp [answer, *]
       rw [ha]; exact ⟨_, rfl, rfl⟩)
noncomputable abbrev hop_Answer_F := answer_F
noncomputable def TAN2 : Tbl := tbl [(28, garlandref06_Right_F), (24, garlandref13_Right_F), (57, garlandref06_Tell_F), (16, garlandref16_Next_F)]
theorem TAN2_ok : TblOK Try.prog TAN2 := tbl_ok (by
  simp only [List.mem_cons, List.not_mem_nil, or_false]
  rintro p (rfl | rfl | rfl | rfl)
  · exact garlandref06_Right
  · exact garlandref13_Right
  · exact garlandref06_Tell
  · exact garlandref16_Next)
instance : Has TAN2 28 garlandref06_Right_F := ⟨rfl⟩
instance : Has TAN2 24 garlandref13_Right_F := ⟨rfl⟩
instance : Has TAN2 57 garlandref06_Tell_F := ⟨rfl⟩
instance : Has TAN2 16 garlandref16_Next_F := ⟨rfl⟩

theorem garlandref16_Answer : Pure Try.prog 21 answer_F := by
  refine con TAN2_ok rfl rfl fun ⟨v, m⟩ hm => ⟨rfl, ?_⟩
  have hm : m.call < 9223372036854775808 := hm
  haveI : Fact (m.call < 9223372036854775808) := ⟨hm⟩
  have htc : (m.kind == 4) = true → m.tell.cs = _ := fun h => tell_cs (m := m) (by simpa using h)
  simp [cf21, Mg_av, V_av, -getElem?_pos, cs_0, cs_length, cs_take, cs_all, cs_lows, mcs_0, mcs_1, mcs_2, mcs_3, mcs_4, mcs_5, mcs_len, mcs_take, mcs_all, mcs_lows, fillA]
  all_goals (try (first | refine WLV_splitN (fun hs => ?_) (fun hs => ?_) | refine WLC_splitN (fun hs => ?_) (fun hs => ?_) | refine WLB_splitN (fun hs => ?_) (fun hs => ?_) | refine WLPV_splitN (fun hs => ?_) (fun hs => ?_) | refine WLPC_splitN (fun hs => ?_) (fun hs => ?_) | refine WLPV_split (fun hs => ?_) (fun hs => ?_) | refine WLPC_split (fun hs => ?_) (fun hs => ?_) | refine WLV_split (fun hs => ?_) (fun hs => ?_) | refine WLC_split (fun hs => ?_) (fun hs => ?_) | refine WLB_split (fun hs => ?_) (fun hs => ?_)))
  all_goals (try (have hs' := hs; simp at hs'))
  all_goals (try simp [*, -getElem?_pos, cs_0, cs_length, cs_take, cs_all, cs_lows, mcs_0, mcs_1, mcs_2, mcs_3, mcs_4, mcs_5, mcs_len, mcs_take, mcs_all, mcs_lows, fillA])
  all_goals (try (first | refine WLV_splitN (fun hs => ?_) (fun hs => ?_) | refine WLC_splitN (fun hs => ?_) (fun hs => ?_) | refine WLB_splitN (fun hs => ?_) (fun hs => ?_) | refine WLPV_splitN (fun hs => ?_) (fun hs => ?_) | refine WLPC_splitN (fun hs => ?_) (fun hs => ?_) | refine WLPV_split (fun hs => ?_) (fun hs => ?_) | refine WLPC_split (fun hs => ?_) (fun hs => ?_) | refine WLV_split (fun hs => ?_) (fun hs => ?_) | refine WLC_split (fun hs => ?_) (fun hs => ?_) | refine WLB_split (fun hs => ?_) (fun hs => ?_)))
  all_goals (try (have hs' := hs; simp at hs'))
  all_goals (try simp [*, -getElem?_pos, cs_0, cs_length, cs_take, cs_all, cs_lows, mcs_0, mcs_1, mcs_2, mcs_3, mcs_4, mcs_5, mcs_len, mcs_take, mcs_all, mcs_lows, fillA])
  all_goals (try (first | refine WLV_splitN (fun hs => ?_) (fun hs => ?_) | refine WLC_splitN (fun hs => ?_) (fun hs => ?_) | refine WLB_splitN (fun hs => ?_) (fun hs => ?_) | refine WLPV_splitN (fun hs => ?_) (fun hs => ?_) | refine WLPC_splitN (fun hs => ?_) (fun hs => ?_) | refine WLPV_split (fun hs => ?_) (fun hs => ?_) | refine WLPC_split (fun hs => ?_) (fun hs => ?_) | refine WLV_split (fun hs => ?_) (fun hs => ?_) | refine WLC_split (fun hs => ?_) (fun hs => ?_) | refine WLB_split (fun hs => ?_) (fun hs => ?_)))
  all_goals (try (have hs' := hs; simp at hs'))
  all_goals (try simp [*, -getElem?_pos, cs_0, cs_length, cs_take, cs_all, cs_lows, mcs_0, mcs_1, mcs_2, mcs_3, mcs_4, mcs_5, mcs_len, mcs_take, mcs_all, mcs_lows, fillA])
  all_goals (try (first | refine WLV_splitN (fun hs => ?_) (fun hs => ?_) | refine WLC_splitN (fun hs => ?_) (fun hs => ?_) | refine WLB_splitN (fun hs => ?_) (fun hs => ?_) | refine WLPV_splitN (fun hs => ?_) (fun hs => ?_) | refine WLPC_splitN (fun hs => ?_) (fun hs => ?_) | refine WLPV_split (fun hs => ?_) (fun hs => ?_) | refine WLPC_split (fun hs => ?_) (fun hs => ?_) | refine WLV_split (fun hs => ?_) (fun hs => ?_) | refine WLC_split (fun hs => ?_) (fun hs => ?_) | refine WLB_split (fun hs => ?_) (fun hs => ?_)))
  all_goals (try (have hs' := hs; simp at hs'))
  all_goals (try simp [*, -getElem?_pos, cs_0, cs_length, cs_take, cs_all, cs_lows, mcs_0, mcs_1, mcs_2, mcs_3, mcs_4, mcs_5, mcs_len, mcs_take, mcs_all, mcs_lows, fillA])
  all_goals first
    | (have ha : answer v m = MW.zero := by simp [answer, *]
       rw [ha]; exact ⟨_, rfl, rfl⟩)
    | (have ha : answer v m = ⟨10, m.call, v.id, m.src, 0, false, (v.next m.key m.slow).2, (v.next m.key m.slow).1, 0, [], [], 0, 0, false, 0, by decide⟩ := by simp [answer, *]
       rw [ha]; exact ⟨_, rfl, rfl⟩)
noncomputable abbrev garlandref16_Answer_F := answer_F
def VW.great (v : VW) : Bool := decide (20 < v.base.length) || decide (20 < v.lst.length)
noncomputable def great_F := orcOf (fun v : VW => [V v]) (fun _ => True) (fun v => [Bo v.great])
instance (v : VW) : Tells great_F [.agg v.cs] (.d (.bool v.great)) :=
  ⟨[V v], [Bo v.great], fun h => by simp only [toDVs, toV], orcOf_eq (enc := fun v : VW => [V v]) (x := v) trivial (fun y h => by
    simp only [V, List.cons.injEq, DV.g.injEq, and_true] at h
    exact VW.inj h), rfl, by simp [cs_tied], fun _ _ => by simp [AV.lows, cs_lows]⟩
theorem garlandref13_Great : Pure Try.prog 13 great_F := by
  refine con (T := tbl []) (tbl_ok (by simp)) rfl rfl fun v _ => ⟨rfl, ?_⟩
  by_cases h1 : 20 < v.base.length <;> by_cases h2 : 20 < v.lst.length
  all_goals
    simp [cf13, V_av, -getElem?_pos, cs_1, cs_2, cs_length, stepK.lenA, rowsI_length, VW.great, h1, h2, show ((20 : Int) < v.base.length) = (20 < v.base.length) from by rw [eq_iff_iff]; omega, show ((20 : Int) < v.lst.length) = (20 < v.lst.length) from by rw [eq_iff_iff]; omega]
noncomputable abbrev garlandref13_Great_F := great_F
end Go.Proofs.Ytbeocehhclfbiaa.Lite
