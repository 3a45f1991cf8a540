/- A part of the proof of: StabEnds: whatever the view, what is told one behind the other: the law is true, and its arguments stay as they were; the card ties stab.phases to the text. No condition but the card own. -/
import Derived.Test.YtfifgiopdbdeoaaDoorHc5
set_option linter.unusedSimpArgs false
set_option linter.unusedVariables false
namespace Go.Proofs.YtfifgiopdbdeoaaDoor.Lite
open Go
attribute [local simp] WL_of WL_nil WL_blk WL_skip WL_label WL_exit WL_goto WL_seq WL_block WL_cond WL_reg WL_ret WJ_nil WJ_ex WJ_gt WJ_rt WJ_exb WJ_gtb WJ_rtb WLO_nil WLO_call WO_nw stepN WO_mv WO_pick WO_new WO_box WO_ld WO_ldn WO_st WO_off WO_ixa WO_ixs WO_fld WO_fldn WO_ixv WO_ixvn WO_ixb WO_bin WO_eqb WO_isn WO_eqs WO_not WO_conv WO_mkf WO_bld WO_bls WO_sla WO_sls WO_sl0 WO_len WO_app WO_mnx WO_ext WO_nilc wants_none wants_some wantv_b wantv_t WLV_true WLV_false WLC_false WLB_true WLB_false evX_t evX_c evXs_nil evXs_cons look_put look_putN look_cons look_arg0 look_arg stepK binOpA intOp strOp evRes oneOf outs gc toDV AV.dat? I Bo av_s List.map List.append_nil getO putO AV.cellsOf bne WL_dreg WLP_nil WLP_call WP_mv WP_pick WP_new WP_box WP_ld WP_ldn WP_off WP_ixa WP_ixs WP_fld WP_fldn WP_ixv WP_ixvn WP_ixb WP_bin WP_eqb WP_isn WP_eqs WP_not WP_conv WP_mkf WP_bld WP_bls WP_sla WP_sls WP_sl0 WP_len WP_app WP_mnx WP_ext WP_nilc WLPV_true WLPV_false WLPC_false WLC_tells WLPC_tells padH onNm onEx List.getElem?_cons_zero List.getElem?_cons_succ List.getElem?_nil restrict AV.lows lay AV.isCell lowObj AObj.lows WJ_nm AV.lows.go WL_scope onGt_rt onGt_nm onGt_ex WL_sreg WP_st preSt eraseB List.set_cons_zero List.set_cons_succ frz cutR cutAs cutA WL_sregT cutB cutBs

def lok (src : Int) : List Int → List Int → Bool
  | _, [] => true
  | pre, n :: l => (isPlace n && !(n == src) && !decide (n ∈ pre)) && lok src (pre ++ [n]) l
def listOk (l : List Int) (src : Int) : Bool := lok src [] l && decide (l.length ≤ 3)
noncomputable def listOk_F := orcOf (fun p : List Int × Int => [SI p.1, I p.2]) (fun p => p.1.length < 9223372036854775808) (fun p => [Bo (listOk p.1 p.2)])
instance (l : List Int) (n : Int) [h : Fact (l.length < 9223372036854775808)] : Tells listOk_F [.d (.sl (rowsI l)), .d (.int .i64 n)] (.d (.bool (listOk l n))) := ⟨_, [Bo (listOk l n)], toSI l n, orcSI h.out, rfl, rfl, fun _ _ => rfl⟩
theorem rowsI_take (l : List Int) (n : Nat) : (rowsI l).take n = rowsI (l.take n) := by simp [rowsI, List.map_take]
theorem take_snoc {l : List Int} {i : Nat} {n : Int} (h : l[i]? = some n) : l.take (i + 1) = l.take i ++ [n] := by rw [List.take_add_one, h]; rfl

noncomputable def TML : Tbl := tbl [(93, slices_Contains_F), (84, msg_place_F)]
theorem TML_ok : TblOK Tryd.prog TML := tbl_ok (by
  simp only [List.mem_cons, List.not_mem_nil, or_false]
  rintro p (rfl | rfl)
  · exact slices_Contains
  · exact msg_place)
instance : Has TML 93 slices_Contains_F := ⟨rfl⟩
instance : Has TML 84 msg_place_F := ⟨rfl⟩

def L102 : CCode := (.loop [0, 1, 2, 6, 7, 8] (.seq (.reg (⟨(some 9), .bin .lss (.t 8) (.t 7), none⟩ ::
    []))
  (.seq (.cond (.t 9) .skip (.exit 0))
  (.seq (.block 1 (.seq (.reg (⟨(some 10), .mv (.t 8), none⟩ ::
    ⟨(some 11), .ixs 1 (.t 6) (.t 8), none⟩ ::
    ⟨(some 12), .ld (.t 11), none⟩ ::
    ⟨(some 4), .mv (.t 10), none⟩ ::
    ⟨(some 5), .mv (.t 12), none⟩ ::
    []))
  (.seq (.reg (⟨(some 13), .mv (.t 0), none⟩ ::
    ⟨(some 14), .mv (.t 5), none⟩ ::
    ⟨(some 15), .mv (.t 5), none⟩ ::
    ⟨(some 16), .ld (.t 2), none⟩ ::
    ⟨(some 17), .bin .neq (.t 15) (.t 16), none⟩ ::
    ⟨(some 18), .mv (.t 17), none⟩ ::
    ⟨(some 19), .ld (.t 1), (some (18, true))⟩ ::
    ⟨(some 20), .mv (.t 4), (some (18, true))⟩ ::
    ⟨(some 21), .sls 1 (.t 19) none (some (.t 20)), (some (18, true))⟩ ::
    ⟨(some 22), .mv (.t 5), (some (18, true))⟩ ::
    ⟨(some 23), .call (.c (.fn 93 [])) [(.t 21), (.t 22)], (some (18, true))⟩ ::
    ⟨(some 24), .not (.t 23), (some (18, true))⟩ ::
    ⟨(some 25), .pick (.t 18) (.t 24) (.c (.d (.bool false))), none⟩ ::
    ⟨(some 26), .call (.t 13) [(.t 14), (.t 25)], none⟩ ::
    ⟨(some 27), .not (.t 26), none⟩ ::
    []))
  (.cond (.t 27) .ret .skip))))
  (.reg (⟨(some 28), .bin .add (.t 8) (.c (.d (.int .i64 1))), none⟩ ::
    ⟨(some 8), .mv (.t 28), none⟩ ::
    []))))))
theorem L102_eq : L102 = .loop [0, 1, 2, 6, 7, 8] (.seq (.reg (⟨(some 9), .bin .lss (.t 8) (.t 7), none⟩ ::
    []))
  (.seq (.cond (.t 9) .skip (.exit 0))
  (.seq (.block 1 (.seq (.reg (⟨(some 10), .mv (.t 8), none⟩ ::
    ⟨(some 11), .ixs 1 (.t 6) (.t 8), none⟩ ::
    ⟨(some 12), .ld (.t 11), none⟩ ::
    ⟨(some 4), .mv (.t 10), none⟩ ::
    ⟨(some 5), .mv (.t 12), none⟩ ::
    []))
  (.seq (.reg (⟨(some 13), .mv (.t 0), none⟩ ::
    ⟨(some 14), .mv (.t 5), none⟩ ::
    ⟨(some 15), .mv (.t 5), none⟩ ::
    ⟨(some 16), .ld (.t 2), none⟩ ::
    ⟨(some 17), .bin .neq (.t 15) (.t 16), none⟩ ::
    ⟨(some 18), .mv (.t 17), none⟩ ::
    ⟨(some 19), .ld (.t 1), (some (18, true))⟩ ::
    ⟨(some 20), .mv (.t 4), (some (18, true))⟩ ::
    ⟨(some 21), .sls 1 (.t 19) none (some (.t 20)), (some (18, true))⟩ ::
    ⟨(some 22), .mv (.t 5), (some (18, true))⟩ ::
    ⟨(some 23), .call (.c (.fn 93 [])) [(.t 21), (.t 22)], (some (18, true))⟩ ::
    ⟨(some 24), .not (.t 23), (some (18, true))⟩ ::
    ⟨(some 25), .pick (.t 18) (.t 24) (.c (.d (.bool false))), none⟩ ::
    ⟨(some 26), .call (.t 13) [(.t 14), (.t 25)], none⟩ ::
    ⟨(some 27), .not (.t 26), none⟩ ::
    []))
  (.cond (.t 27) .ret .skip))))
  (.reg (⟨(some 28), .bin .add (.t 8) (.c (.d (.int .i64 1))), none⟩ ::
    ⟨(some 8), .mv (.t 28), none⟩ ::
    []))))) := rfl
def recL (e0 : Env) : LRec := ⟨[10, 11], (.seq (.reg (⟨(some 5), .mv (.t 10), none⟩ ::
    []))
  (.reg (⟨(some 6), .mv (.t 11), none⟩ ::
    []))), (.block 1 (.seq (.reg (⟨(some 12), .mv (.t 6), none⟩ ::
    ⟨(some 13), .not (.t 12), none⟩ ::
    ⟨(some 14), .mv (.t 13), none⟩ ::
    ⟨(some 15), .mv (.t 5), (some (14, false))⟩ ::
    ⟨(some 16), .call (.c (.fn 84 [])) [(.t 15)], (some (14, false))⟩ ::
    ⟨(some 17), .not (.t 16), (some (14, false))⟩ ::
    ⟨(some 18), .pick (.t 14) (.c (.d (.bool true))) (.t 17), none⟩ ::
    []))
  (.cond (.t 18) (.seq (.reg (⟨none, .st 1 (.t 4) (.c (.d (.bool false))), none⟩ ::
    []))
  .ret) .skip))), e0⟩
def hpL (l : List Int) (src : Int) (b : Bool) : Heap := [some (.cells [.d (.bool b)]), some (.cells [vsI l]), some (.cells [.d (.int .i64 src)])]
theorem others_loop (l : List Int) (src : Int) (hl : l.length < 9223372036854775808) (e0 : Env) (g4 : look e0 4 = some (.ptr 0 0)) : ∀ (k i : Nat), l.length - i = k → i ≤ l.length → ∀ (env : Env),
    look env 0 = some (.yld 0) → look env 1 = some (.ptr 1 0) → look env 2 = some (.ptr 2 0) → look env 6 = some (vsI l) → look env 7 = some (.d (.int .i64 l.length)) → look env 8 = some (.d (.int .i64 i)) →
    ∀ (Q : Ex → Env → St → Prop), (lok src (l.take i) (l.drop i) = true → ∀ env', Q (.ex 0) env' ⟨hpL l src false, [none]⟩) → (lok src (l.take i) (l.drop i) = false → ∀ env', Q .rt env' ⟨hpL l src false, [some .rt]⟩) →
    W TML ⟨[some (recL e0)], 0⟩ L102 env ⟨hpL l src false, [none]⟩ Q := by
  intro k
  induction k with
  | zero =>
    intro i hk hi env h0 h1 h2 h6 h7 h8 Q hQ1 hQ2
    have hlt : ¬ i < l.length := by omega
    rw [L102_eq, W_loop]
    simp [-getElem?_pos, h0, h1, h2, h6, h7, h8, hlt]
    exact hQ1 (by rw [List.drop_eq_nil_of_le (by omega)]; rfl) _
  | succ k ih =>
    intro i hk hi env h0 h1 h2 h6 h7 h8 Q hQ1 hQ2
    have hlt : i < l.length := by omega
    obtain ⟨n, hn⟩ : ∃ n, l[i]? = some n := ⟨_, List.getElem?_eq_getElem hlt⟩
    have hd : l.drop i = n :: l.drop (i + 1) := by rw [List.drop_eq_getElem_cons hlt]; congr 1; exact (List.getElem?_eq_some_iff.1 hn).2
    have hw := wrapN1 i (by omega)
    haveI : Fact ((l.take i).length < 9223372036854775808) := ⟨by rw [List.length_take]; omega⟩
    have hb : i ≤ (rowsI l).length := by rw [rowsI_length]; omega
    have ht := take_snoc hn
    rw [L102_eq, W_loop]
    simp [-getElem?_pos, hpL, h0, h1, h2, h6, h7, h8, hlt, rowsI_get, hn, bound?, sliceA, rowsI_length, rowsI_take, rowsI_ok, hb, -Int.natCast_add]
    all_goals (try (first | refine WLV_splitN (fun hs => ?_) (fun hs => ?_) | refine WLC_splitN (fun hs => ?_) (fun hs => ?_) | refine WLB_splitN (fun hs => ?_) (fun hs => ?_) | refine WLPV_splitN (fun hs => ?_) (fun hs => ?_) | refine WLPC_splitN (fun hs => ?_) (fun hs => ?_) | refine WLPV_split (fun hs => ?_) (fun hs => ?_) | refine WLPC_split (fun hs => ?_) (fun hs => ?_) | refine WLV_split (fun hs => ?_) (fun hs => ?_) | refine WLC_split (fun hs => ?_) (fun hs => ?_) | refine WLB_split (fun hs => ?_) (fun hs => ?_)))
    all_goals (try (have hs' := hs; simp at hs'))
    all_goals (try simp [*, -getElem?_pos, h0, h1, h2, h6, h7, h8, hlt, bound?, sliceA, rowsI_length, rowsI_take, rowsI_ok, hb, -Int.natCast_add])
    all_goals
      refine WLC_yld (r := recL e0) rfl rfl rfl ?_
      simp [recL, bindPs, hpL, -getElem?_pos, g4]
    all_goals (try (first | refine WLV_splitN (fun hs => ?_) (fun hs => ?_) | refine WLC_splitN (fun hs => ?_) (fun hs => ?_) | refine WLB_splitN (fun hs => ?_) (fun hs => ?_) | refine WLPV_splitN (fun hs => ?_) (fun hs => ?_) | refine WLPC_splitN (fun hs => ?_) (fun hs => ?_) | refine WLPV_split (fun hs => ?_) (fun hs => ?_) | refine WLPC_split (fun hs => ?_) (fun hs => ?_) | refine WLV_split (fun hs => ?_) (fun hs => ?_) | refine WLC_split (fun hs => ?_) (fun hs => ?_) | refine WLB_split (fun hs => ?_) (fun hs => ?_)))
    all_goals (try (have hs' := hs; simp at hs'))
    all_goals (try simp [*, -getElem?_pos, afterY, hpL, g4, h0, h1, h2, h6, h7, h8, hlt, -Int.natCast_add])
    all_goals (try (first | refine WLV_splitN (fun hs => ?_) (fun hs => ?_) | refine WLC_splitN (fun hs => ?_) (fun hs => ?_) | refine WLB_splitN (fun hs => ?_) (fun hs => ?_) | refine WLPV_splitN (fun hs => ?_) (fun hs => ?_) | refine WLPC_splitN (fun hs => ?_) (fun hs => ?_) | refine WLPV_split (fun hs => ?_) (fun hs => ?_) | refine WLPC_split (fun hs => ?_) (fun hs => ?_) | refine WLV_split (fun hs => ?_) (fun hs => ?_) | refine WLC_split (fun hs => ?_) (fun hs => ?_) | refine WLB_split (fun hs => ?_) (fun hs => ?_)))
    all_goals (try (have hs' := hs; simp at hs'))
    all_goals (try simp [*, -getElem?_pos, afterY, hpL, g4, h0, h1, h2, h6, h7, h8, hlt, -Int.natCast_add])
    all_goals first
      | (refine hQ2 ?_ _; rw [hd]; simp [lok, *]; done)
      | (refine (WL_of (c := L102)).1 (ih (i + 1) (by omega) (by omega) _ ?_ ?_ ?_ ?_ ?_ ?_ Q (fun hc => hQ1 ?_) (fun hc => hQ2 ?_))
         all_goals first
           | (simp [-getElem?_pos, h0, h1, h2, h6, h7, h8, hw, -Int.natCast_add]; done)
           | (rw [ht] at hc; rw [hd]; simp [lok, *]; done))
theorem msg_list : Pure Tryd.prog 120 listOk_F := by
  refine con TML_ok rfl rfl fun ⟨l, src⟩ hl => ⟨rfl, ?_⟩
  simp [cf120, -getElem?_pos, SI]
  refine WLC_fn (cf := cf135) rfl rfl rfl ?_
  simp [cf135, afterC, -getElem?_pos]
  refine WL_range (cf := cf143) rfl rfl rfl rfl ?_
  simp [cf143, -getElem?_pos, stepK.lenA, rowsI_length]
  rw [WL_code]
  refine others_loop l src hl _ ?_ l.length 0 (by omega) (by omega) _ ?_ ?_ ?_ ?_ ?_ ?_ _ (fun hc env' => ?_) (fun hc env' => ?_)
  all_goals (try (simp [-getElem?_pos]; done))
  · simp at hc
    simp [-getElem?_pos, hpL, afterR, stepK.lenA, rowsI_length, listOk, hc]
    omega
  · simp at hc
    simp [-getElem?_pos, hpL, afterR, listOk, hc]
noncomputable abbrev msg_list_F := listOk_F

noncomputable def TML2 : Tbl := tbl [(52, garlandref06_place_F)]
theorem TML2_ok : TblOK Tryd.prog TML2 := tbl_ok (by
  simp only [List.mem_cons, List.not_mem_nil, or_false]
  rintro p (rfl)
  · exact garlandref06_place)
instance : Has TML2 52 garlandref06_place_F := ⟨rfl⟩

def L87a : CCode := (.loop [0, 1, 5] (.seq (.seq (.reg (⟨(some 7), .mv (.t 5), none⟩ ::
    ⟨(some 8), .mv (.t 0), none⟩ ::
    ⟨(some 9), .len false (.t 8), none⟩ ::
    ⟨(some 10), .bin .lss (.t 7) (.t 9), none⟩ ::
    []))
  (.cond (.t 10) .skip (.exit 0)))
  (.seq (.block 1 (.seq (.seq (.reg (⟨(some 13), .mv (.t 0), none⟩ ::
    ⟨(some 14), .mv (.t 5), none⟩ ::
    ⟨(some 15), .ixs 1 (.t 13) (.t 14), none⟩ ::
    ⟨(some 16), .ld (.t 15), none⟩ ::
    ⟨(some 17), .call (.c (.fn 52 [])) [(.t 16)], none⟩ ::
    ⟨(some 18), .not (.t 17), none⟩ ::
    ⟨(some 19), .mv (.t 18), none⟩ ::
    ⟨(some 20), .mv (.t 0), (some (19, false))⟩ ::
    ⟨(some 21), .mv (.t 5), (some (19, false))⟩ ::
    ⟨(some 22), .ixs 1 (.t 20) (.t 21), (some (19, false))⟩ ::
    ⟨(some 23), .ld (.t 22), (some (19, false))⟩ ::
    ⟨(some 24), .mv (.t 1), (some (19, false))⟩ ::
    ⟨(some 25), .bin .eql (.t 23) (.t 24), (some (19, false))⟩ ::
    ⟨(some 26), .pick (.t 19) (.c (.d (.bool true))) (.t 25), none⟩ ::
    []))
  (.cond (.t 26) (.seq (.reg (⟨(some 4), .mv (.c (.d (.bool false))), none⟩ ::
    []))
  .ret) .skip))
  (.seq (.reg (⟨(some 6), .mv (.c (.d (.int .i64 0))), none⟩ ::
    []))
  (.block 2 (.loop [0, 1, 5, 6] (.seq (.seq (.reg (⟨(some 27), .mv (.t 6), none⟩ ::
    ⟨(some 28), .mv (.t 5), none⟩ ::
    ⟨(some 29), .bin .lss (.t 27) (.t 28), none⟩ ::
    []))
  (.cond (.t 29) .skip (.exit 2)))
  (.seq (.block 3 (.seq (.dreg (⟨(some 32), .mv (.t 0), none⟩ ::
    ⟨(some 33), .mv (.t 6), none⟩ ::
    ⟨(some 34), .ixs 1 (.t 32) (.t 33), none⟩ ::
    ⟨(some 35), .ld (.t 34), none⟩ ::
    ⟨(some 36), .mv (.t 0), none⟩ ::
    ⟨(some 37), .mv (.t 5), none⟩ ::
    ⟨(some 38), .ixs 1 (.t 36) (.t 37), none⟩ ::
    ⟨(some 39), .ld (.t 38), none⟩ ::
    []) (⟨(some 40), .bin .eql (.t 35) (.t 39), none⟩ ::
    []))
  (.cond (.t 40) (.seq (.reg (⟨(some 4), .mv (.c (.d (.bool false))), none⟩ ::
    []))
  .ret) .skip)))
  (.reg (⟨(some 30), .mv (.t 6), none⟩ ::
    ⟨(some 31), .bin .add (.t 30) (.c (.d (.int .i64 1))), none⟩ ::
    ⟨(some 6), .mv (.t 31), none⟩ ::
    [])))))))))
  (.reg (⟨(some 11), .mv (.t 5), none⟩ ::
    ⟨(some 12), .bin .add (.t 11) (.c (.d (.int .i64 1))), none⟩ ::
    ⟨(some 5), .mv (.t 12), none⟩ ::
    [])))))
theorem L87a_eq : L87a = .loop [0, 1, 5] (.seq (.seq (.reg (⟨(some 7), .mv (.t 5), none⟩ ::
    ⟨(some 8), .mv (.t 0), none⟩ ::
    ⟨(some 9), .len false (.t 8), none⟩ ::
    ⟨(some 10), .bin .lss (.t 7) (.t 9), none⟩ ::
    []))
  (.cond (.t 10) .skip (.exit 0)))
  (.seq (.block 1 (.seq (.seq (.reg (⟨(some 13), .mv (.t 0), none⟩ ::
    ⟨(some 14), .mv (.t 5), none⟩ ::
    ⟨(some 15), .ixs 1 (.t 13) (.t 14), none⟩ ::
    ⟨(some 16), .ld (.t 15), none⟩ ::
    ⟨(some 17), .call (.c (.fn 52 [])) [(.t 16)], none⟩ ::
    ⟨(some 18), .not (.t 17), none⟩ ::
    ⟨(some 19), .mv (.t 18), none⟩ ::
    ⟨(some 20), .mv (.t 0), (some (19, false))⟩ ::
    ⟨(some 21), .mv (.t 5), (some (19, false))⟩ ::
    ⟨(some 22), .ixs 1 (.t 20) (.t 21), (some (19, false))⟩ ::
    ⟨(some 23), .ld (.t 22), (some (19, false))⟩ ::
    ⟨(some 24), .mv (.t 1), (some (19, false))⟩ ::
    ⟨(some 25), .bin .eql (.t 23) (.t 24), (some (19, false))⟩ ::
    ⟨(some 26), .pick (.t 19) (.c (.d (.bool true))) (.t 25), none⟩ ::
    []))
  (.cond (.t 26) (.seq (.reg (⟨(some 4), .mv (.c (.d (.bool false))), none⟩ ::
    []))
  .ret) .skip))
  (.seq (.reg (⟨(some 6), .mv (.c (.d (.int .i64 0))), none⟩ ::
    []))
  (.block 2 (.loop [0, 1, 5, 6] (.seq (.seq (.reg (⟨(some 27), .mv (.t 6), none⟩ ::
    ⟨(some 28), .mv (.t 5), none⟩ ::
    ⟨(some 29), .bin .lss (.t 27) (.t 28), none⟩ ::
    []))
  (.cond (.t 29) .skip (.exit 2)))
  (.seq (.block 3 (.seq (.dreg (⟨(some 32), .mv (.t 0), none⟩ ::
    ⟨(some 33), .mv (.t 6), none⟩ ::
    ⟨(some 34), .ixs 1 (.t 32) (.t 33), none⟩ ::
    ⟨(some 35), .ld (.t 34), none⟩ ::
    ⟨(some 36), .mv (.t 0), none⟩ ::
    ⟨(some 37), .mv (.t 5), none⟩ ::
    ⟨(some 38), .ixs 1 (.t 36) (.t 37), none⟩ ::
    ⟨(some 39), .ld (.t 38), none⟩ ::
    []) (⟨(some 40), .bin .eql (.t 35) (.t 39), none⟩ ::
    []))
  (.cond (.t 40) (.seq (.reg (⟨(some 4), .mv (.c (.d (.bool false))), none⟩ ::
    []))
  .ret) .skip)))
  (.reg (⟨(some 30), .mv (.t 6), none⟩ ::
    ⟨(some 31), .bin .add (.t 30) (.c (.d (.int .i64 1))), none⟩ ::
    ⟨(some 6), .mv (.t 31), none⟩ ::
    [])))))))))
  (.reg (⟨(some 11), .mv (.t 5), none⟩ ::
    ⟨(some 12), .bin .add (.t 11) (.c (.d (.int .i64 1))), none⟩ ::
    ⟨(some 5), .mv (.t 12), none⟩ ::
    [])))) := rfl
def L87b : CCode := (.loop [0, 1, 5, 6] (.seq (.seq (.reg (⟨(some 27), .mv (.t 6), none⟩ ::
    ⟨(some 28), .mv (.t 5), none⟩ ::
    ⟨(some 29), .bin .lss (.t 27) (.t 28), none⟩ ::
    []))
  (.cond (.t 29) .skip (.exit 2)))
  (.seq (.block 3 (.seq (.dreg (⟨(some 32), .mv (.t 0), none⟩ ::
    ⟨(some 33), .mv (.t 6), none⟩ ::
    ⟨(some 34), .ixs 1 (.t 32) (.t 33), none⟩ ::
    ⟨(some 35), .ld (.t 34), none⟩ ::
    ⟨(some 36), .mv (.t 0), none⟩ ::
    ⟨(some 37), .mv (.t 5), none⟩ ::
    ⟨(some 38), .ixs 1 (.t 36) (.t 37), none⟩ ::
    ⟨(some 39), .ld (.t 38), none⟩ ::
    []) (⟨(some 40), .bin .eql (.t 35) (.t 39), none⟩ ::
    []))
  (.cond (.t 40) (.seq (.reg (⟨(some 4), .mv (.c (.d (.bool false))), none⟩ ::
    []))
  .ret) .skip)))
  (.reg (⟨(some 30), .mv (.t 6), none⟩ ::
    ⟨(some 31), .bin .add (.t 30) (.c (.d (.int .i64 1))), none⟩ ::
    ⟨(some 6), .mv (.t 31), none⟩ ::
    [])))))
theorem L87b_eq : L87b = .loop [0, 1, 5, 6] (.seq (.seq (.reg (⟨(some 27), .mv (.t 6), none⟩ ::
    ⟨(some 28), .mv (.t 5), none⟩ ::
    ⟨(some 29), .bin .lss (.t 27) (.t 28), none⟩ ::
    []))
  (.cond (.t 29) .skip (.exit 2)))
  (.seq (.block 3 (.seq (.dreg (⟨(some 32), .mv (.t 0), none⟩ ::
    ⟨(some 33), .mv (.t 6), none⟩ ::
    ⟨(some 34), .ixs 1 (.t 32) (.t 33), none⟩ ::
    ⟨(some 35), .ld (.t 34), none⟩ ::
    ⟨(some 36), .mv (.t 0), none⟩ ::
    ⟨(some 37), .mv (.t 5), none⟩ ::
    ⟨(some 38), .ixs 1 (.t 36) (.t 37), none⟩ ::
    ⟨(some 39), .ld (.t 38), none⟩ ::
    []) (⟨(some 40), .bin .eql (.t 35) (.t 39), none⟩ ::
    []))
  (.cond (.t 40) (.seq (.reg (⟨(some 4), .mv (.c (.d (.bool false))), none⟩ ::
    []))
  .ret) .skip)))
  (.reg (⟨(some 30), .mv (.t 6), none⟩ ::
    ⟨(some 31), .bin .add (.t 30) (.c (.d (.int .i64 1))), none⟩ ::
    ⟨(some 6), .mv (.t 31), none⟩ ::
    [])))) := rfl
theorem list87_b (l : List Int) (src n : Int) (i : Nat) (hl : l.length < 9223372036854775808) (hn : l[i]? = some n) : ∀ (k j : Nat), i - j = k → j ≤ i → ∀ (env : Env),
    look env 0 = some (vsI l) → look env 1 = some (.d (.int .i64 src)) → look env 5 = some (.d (.int .i64 i)) → look env 6 = some (.d (.int .i64 j)) →
    ∀ (Q : Ex → Env → St → Prop), (¬ n ∈ (l.take i).drop j → ∀ env', look env' 0 = some (vsI l) → look env' 1 = some (.d (.int .i64 src)) → look env' 5 = some (.d (.int .i64 i)) → Q (.ex 2) env' ⟨[], []⟩) →
      (n ∈ (l.take i).drop j → ∀ env' h', look env' 4 = some (.d (.bool false)) → Q .rt env' ⟨h', []⟩) → W TML2 ⟨[], 0⟩ L87b env ⟨[], []⟩ Q := by
  have hil : i < l.length := (List.getElem?_eq_some_iff.1 hn).1
  intro k
  induction k with
  | zero =>
    intro j hk hj env h0 h1 h5 h6 Q hQ1 hQ2
    have hlt : ¬ j < i := by omega
    rw [L87b_eq, W_loop]
    simp [-getElem?_pos, h0, h1, h5, h6, hlt]
    refine hQ1 (by rw [List.drop_eq_nil_of_le (by rw [List.length_take]; omega)]; simp) _ ?_ ?_ ?_ <;> simp [-getElem?_pos, h0, h1, h5]
  | succ k ih =>
    intro j hk hj env h0 h1 h5 h6 Q hQ1 hQ2
    have hlt : j < i := by omega
    obtain ⟨m, hm⟩ : ∃ m, l[j]? = some m := ⟨_, List.getElem?_eq_getElem (by omega)⟩
    have hm2 : (l.take i)[j]? = some m := by rw [List.getElem?_take_of_lt hlt, hm]
    have hd : (l.take i).drop j = m :: (l.take i).drop (j + 1) := by rw [List.drop_eq_getElem_cons (by rw [List.length_take]; omega)]; congr 1; exact (List.getElem?_eq_some_iff.1 hm2).2
    have hw := wrapN1 j (by omega)
    rw [L87b_eq, W_loop]
    simp [-getElem?_pos, h0, h1, h5, h6, hlt, rowsI_get, hn, hm, -Int.natCast_add]
    all_goals (try (first | refine WLV_splitN (fun hs => ?_) (fun hs => ?_) | refine WLC_splitN (fun hs => ?_) (fun hs => ?_) | refine WLB_splitN (fun hs => ?_) (fun hs => ?_) | refine WLPV_splitN (fun hs => ?_) (fun hs => ?_) | refine WLPC_splitN (fun hs => ?_) (fun hs => ?_) | refine WLPV_split (fun hs => ?_) (fun hs => ?_) | refine WLPC_split (fun hs => ?_) (fun hs => ?_) | refine WLV_split (fun hs => ?_) (fun hs => ?_) | refine WLC_split (fun hs => ?_) (fun hs => ?_) | refine WLB_split (fun hs => ?_) (fun hs => ?_)))
    all_goals (try (have hs' := hs; simp at hs'))
    all_goals (try simp [*, -getElem?_pos, h0, h1, h5, h6, hlt, -Int.natCast_add])
    all_goals first
      | (refine hQ2 ?_ _ _ ?_
         · rw [hd]; simp [*]
         · simp [-getElem?_pos]
         done)
      | (refine (WL_of (c := L87b)).1 (ih (j + 1) (by omega) (by omega) _ ?_ ?_ ?_ ?_ Q (fun hc => hQ1 ?_) (fun hc => hQ2 ?_))
         all_goals first
           | (simp [-getElem?_pos, h0, h1, h5, hw, -Int.natCast_add]; done)
           | (rw [hd, List.mem_cons]; rintro (e | e)
              · rw [e] at hs; simp at hs
              · exact hc e)
           | (rw [hd, List.mem_cons]; exact .inr hc))
theorem list87_a (l : List Int) (src : Int) (hl : l.length < 9223372036854775808) : ∀ (k i : Nat), l.length - i = k → i ≤ l.length → ∀ (env : Env),
    look env 0 = some (vsI l) → look env 1 = some (.d (.int .i64 src)) → look env 5 = some (.d (.int .i64 i)) →
    ∀ (Q : Ex → Env → St → Prop), (lok src (l.take i) (l.drop i) = true → ∀ env', look env' 0 = some (vsI l) → Q (.ex 0) env' ⟨[], []⟩) →
      (lok src (l.take i) (l.drop i) = false → ∀ env' h', look env' 4 = some (.d (.bool false)) → Q .rt env' ⟨h', []⟩) → W TML2 ⟨[], 0⟩ L87a env ⟨[], []⟩ Q := by
  intro k
  induction k with
  | zero =>
    intro i hk hi env h0 h1 h5 Q hQ1 hQ2
    have hlt : ¬ i < l.length := by omega
    rw [L87a_eq, W_loop]
    simp [-getElem?_pos, h0, h1, h5, stepK.lenA, rowsI_length, hlt]
    refine hQ1 (by rw [List.drop_eq_nil_of_le (by omega)]; rfl) _ ?_ <;> simp [-getElem?_pos, h0]
  | succ k ih =>
    intro i hk hi env h0 h1 h5 Q hQ1 hQ2
    have hlt : i < l.length := by omega
    obtain ⟨n, hn⟩ : ∃ n, l[i]? = some n := ⟨_, List.getElem?_eq_getElem hlt⟩
    have hd : l.drop i = n :: l.drop (i + 1) := by rw [List.drop_eq_getElem_cons hlt]; congr 1; exact (List.getElem?_eq_some_iff.1 hn).2
    have hw := wrapN1 i (by omega)
    have ht := take_snoc hn
    rw [L87a_eq, W_loop]
    simp [-getElem?_pos, h0, h1, h5, stepK.lenA, rowsI_length, hlt, rowsI_get, hn, -Int.natCast_add]
    all_goals (try (first | refine WLV_splitN (fun hs => ?_) (fun hs => ?_) | refine WLC_splitN (fun hs => ?_) (fun hs => ?_) | refine WLB_splitN (fun hs => ?_) (fun hs => ?_) | refine WLPV_splitN (fun hs => ?_) (fun hs => ?_) | refine WLPC_splitN (fun hs => ?_) (fun hs => ?_) | refine WLPV_split (fun hs => ?_) (fun hs => ?_) | refine WLPC_split (fun hs => ?_) (fun hs => ?_) | refine WLV_split (fun hs => ?_) (fun hs => ?_) | refine WLC_split (fun hs => ?_) (fun hs => ?_) | refine WLB_split (fun hs => ?_) (fun hs => ?_)))
    all_goals (try (have hs' := hs; simp at hs'))
    all_goals (try simp [*, -getElem?_pos, h0, h1, h5, stepK.lenA, rowsI_length, hlt, rowsI_get, hn, -Int.natCast_add])
    all_goals (try (first | refine WLV_splitN (fun hs => ?_) (fun hs => ?_) | refine WLC_splitN (fun hs => ?_) (fun hs => ?_) | refine WLB_splitN (fun hs => ?_) (fun hs => ?_) | refine WLPV_splitN (fun hs => ?_) (fun hs => ?_) | refine WLPC_splitN (fun hs => ?_) (fun hs => ?_) | refine WLPV_split (fun hs => ?_) (fun hs => ?_) | refine WLPC_split (fun hs => ?_) (fun hs => ?_) | refine WLV_split (fun hs => ?_) (fun hs => ?_) | refine WLC_split (fun hs => ?_) (fun hs => ?_) | refine WLB_split (fun hs => ?_) (fun hs => ?_)))
    all_goals (try (have hs' := hs; simp at hs'))
    all_goals (try simp [*, -getElem?_pos, h0, h1, h5, stepK.lenA, rowsI_length, hlt, rowsI_get, hn, -Int.natCast_add])
    all_goals first
      | (refine hQ2 ?_ _ _ ?_
         · rw [hd]; simp [lok, *]
         · simp [-getElem?_pos]
         done)
      | (rw [WL_code]
         refine list87_b l src n i hl hn i 0 (by omega) (by omega) _ ?_ ?_ ?_ ?_ _ (fun hc env' a0 a1 a5 => ?_) (fun hc env' h' a4 => ?_)
         all_goals (try (simp [*, -getElem?_pos, h0, h1, h5]; done))
         · rw [List.drop_zero] at hc
           simp [-getElem?_pos, a0, a1, a5, -Int.natCast_add]
           refine (WL_of (c := L87a)).1 (ih (i + 1) (by omega) (by omega) _ ?_ ?_ ?_ Q (fun hc2 => hQ1 ?_) (fun hc2 => hQ2 ?_))
           all_goals first
             | (simp [-getElem?_pos, a0, a1, a5, hw, -Int.natCast_add]; done)
             | (rw [ht] at hc2; rw [hd]; simp [lok, *]; done)
         · rw [List.drop_zero] at hc
           simp [-getElem?_pos, a4]
           refine hQ2 ?_ _ _ a4
           rw [hd]; simp [lok, *])
theorem garlandref06_list : Pure Tryd.prog 98 listOk_F := by
  refine con TML2_ok rfl rfl fun ⟨l, src⟩ hl => ⟨rfl, ?_⟩
  simp [cf98, -getElem?_pos, SI]
  rw [WL_code]
  refine list87_a l src hl l.length 0 (by omega) (by omega) _ ?_ ?_ ?_ _ (fun hc env' a0 => ?_) (fun hc env' h' a4 => ?_)
  all_goals (try (simp [-getElem?_pos]; done))
  · simp at hc
    simp [-getElem?_pos, a0, stepK.lenA, rowsI_length, listOk, hc]
    omega
  · simp at hc
    simp [-getElem?_pos, a4, listOk, hc]
noncomputable abbrev garlandref06_list_F := listOk_F
end Go.Proofs.YtfifgiopdbdeoaaDoor.Lite
namespace Go.Proofs.YtfifgiopdbdeoaaDoor.Lite
open Go
attribute [local simp] WL_of WL_nil WL_blk WL_skip WL_label WL_exit WL_goto WL_seq WL_block WL_cond WL_reg WL_ret WJ_nil WJ_ex WJ_gt WJ_rt WJ_exb WJ_gtb WJ_rtb WLO_nil WLO_call WO_nw stepN WO_mv WO_pick WO_new WO_box WO_ld WO_ldn WO_st WO_off WO_ixa WO_ixs WO_fld WO_fldn WO_ixv WO_ixvn WO_ixb WO_bin WO_eqb WO_isn WO_eqs WO_not WO_conv WO_mkf WO_bld WO_bls WO_sla WO_sls WO_sl0 WO_len WO_app WO_mnx WO_ext WO_nilc wants_none wants_some wantv_b wantv_t WLV_true WLV_false WLC_false WLB_true WLB_false evX_t evX_c evXs_nil evXs_cons look_put look_putN look_cons look_arg0 look_arg stepK binOpA intOp strOp evRes oneOf outs gc toDV AV.dat? I Bo av_s List.map List.append_nil getO putO AV.cellsOf bne WL_dreg WLP_nil WLP_call WP_mv WP_pick WP_new WP_box WP_ld WP_ldn WP_off WP_ixa WP_ixs WP_fld WP_fldn WP_ixv WP_ixvn WP_ixb WP_bin WP_eqb WP_isn WP_eqs WP_not WP_conv WP_mkf WP_bld WP_bls WP_sla WP_sls WP_sl0 WP_len WP_app WP_mnx WP_ext WP_nilc WLPV_true WLPV_false WLPC_false WLC_tells WLPC_tells padH onNm onEx List.getElem?_cons_zero List.getElem?_cons_succ List.getElem?_nil restrict AV.lows lay AV.isCell lowObj AObj.lows WJ_nm AV.lows.go WL_scope onGt_rt onGt_nm onGt_ex WL_sreg WP_st preSt eraseB List.set_cons_zero List.set_cons_succ frz cutR cutAs cutA WL_sregT cutB cutBs

class AsM (xs : List AV) (m : outParam MW) : Prop where
  d : dats? xs = some m.dats
  l : ∀ N M, AV.lows.go N M xs = true
  t : (AV.agg xs).tied = false
instance (m : MW) : AsM m.cs m := ⟨rfl, fun _ _ => rfl, rfl⟩
instance (kind call src dest key : Int) (slow fin : Bool) (place pred : Int) (lst : List Int) (ikey : List UInt8) (ival iver : Int) (gone : Bool) (code : Int) [h : Fact (lst.length < 9223372036854775808)] :
    AsM [.d (.int .u8 kind), .d (.int .i64 call), .d (.int .i64 src), .d (.int .i64 dest), .d (.int .i64 key), .d (.bool slow), .d (.bool fin), .d (.int .i64 place), .d (.int .i64 pred), .d (.sl (rowsI lst)), .d (.str ikey), .d (.int .i64 ival), .d (.int .i64 iver), .d (.bool gone), .d (.int .i64 code)]
      ⟨kind, call, src, dest, key, slow, fin, place, pred, lst, ikey, ival, iver, gone, code, h.out⟩ := ⟨rfl, fun _ _ => rfl, rfl⟩
instance (kind call src dest key : Int) (slow fin : Bool) (place pred : Int) (ikey : List UInt8) (ival iver : Int) (gone : Bool) (code : Int) :
    AsM [.d (.int .u8 kind), .d (.int .i64 call), .d (.int .i64 src), .d (.int .i64 dest), .d (.int .i64 key), .d (.bool slow), .d (.bool fin), .d (.int .i64 place), .d (.int .i64 pred), .nils, .d (.str ikey), .d (.int .i64 ival), .d (.int .i64 iver), .d (.bool gone), .d (.int .i64 code)]
      ⟨kind, call, src, dest, key, slow, fin, place, pred, [], ikey, ival, iver, gone, code, by decide⟩ := ⟨rfl, fun _ _ => rfl, rfl⟩
theorem eq_item (s : List UInt8) (a b : Int) (g : Bool) (s' : List UInt8) (a' b' : Int) (g' : Bool) : eqCells [2, 0, 0, 1] [.d (.str s), .d (.int .i64 a), .d (.int .i64 b), .d (.bool g)] [.d (.str s'), .d (.int .i64 a'), .d (.int .i64 b'), .d (.bool g')] = some (s == s' && a == a' && b == b' && g == g') := by
  cases h1 : s == s' <;> cases h2 : a == a' <;> cases h3 : b == b' <;> cases h4 : g == g' <;> simp only [eqCells, eqCell, h1, h2, h3, h4, if_true] <;> rfl
theorem asM_to {xs : List AV} {m : MW} (h : AsM xs m) (hp : Heap) : toDV hp (.agg xs) = some (Mg m) := by simp [toDV, h.d, Mg]

def MW.same (a b : MW) : Bool := a.kind == b.kind && a.call == b.call && a.src == b.src && a.dest == b.dest && (a.key == b.key && a.slow == b.slow && a.fin == b.fin && a.place == b.place) && a.pred == b.pred && (a.ikey == b.ikey && a.ival == b.ival && a.iver == b.iver && a.gone == b.gone) && a.code == b.code && a.lst == b.lst
noncomputable def same_F := orcOf (fun p : MW × MW => [Mg p.1, Mg p.2]) (fun _ => True) (fun p => [Bo (p.1.same p.2)])
instance (xs ys : List AV) (a b : MW) [ha : AsM xs a] [hb : AsM ys b] : Tells same_F [.agg xs, .agg ys] (.d (.bool (a.same b))) :=
  ⟨[Mg a, Mg b], [Bo (a.same b)], fun h => by simp only [toDVs, asM_to ha, asM_to hb], orcOf_eq (enc := fun p : MW × MW => [Mg p.1, Mg p.2]) (x := (a, b)) trivial (fun y h => by
    simp only [Mg, List.cons.injEq, DV.g.injEq, and_true] at h
    exact Prod.ext (MW.inj h.1) (MW.inj h.2)), rfl, by simp [DV.flat, Dat.flat, Bo], fun N M => by simp [AV.lows, ha.l, hb.l]⟩
instance (m : MW) : Fact (m.lst.length < 9223372036854775808) := ⟨m.hl⟩
noncomputable def TSA : Tbl := tbl [(109, slices_Equal_F)]
theorem TSA_ok : TblOK Tryd.prog TSA := tbl_ok (by
  simp only [List.mem_cons, List.not_mem_nil, or_false]
  rintro p (rfl)
  · exact slices_Equal)
instance : Has TSA 109 slices_Equal_F := ⟨rfl⟩

theorem msg_Same : Pure Tryd.prog 88 same_F := by
  refine con TSA_ok rfl rfl fun ⟨a, b⟩ _ => ⟨rfl, ?_⟩
  simp [cf88, Mg_av, -getElem?_pos, MW.cs, eq_item, MW.same]
  all_goals (try (first | refine WLV_splitN (fun hs => ?_) (fun hs => ?_) | refine WLC_splitN (fun hs => ?_) (fun hs => ?_) | refine WLB_splitN (fun hs => ?_) (fun hs => ?_) | refine WLPV_splitN (fun hs => ?_) (fun hs => ?_) | refine WLPC_splitN (fun hs => ?_) (fun hs => ?_) | refine WLPV_split (fun hs => ?_) (fun hs => ?_) | refine WLPC_split (fun hs => ?_) (fun hs => ?_) | refine WLV_split (fun hs => ?_) (fun hs => ?_) | refine WLC_split (fun hs => ?_) (fun hs => ?_) | refine WLB_split (fun hs => ?_) (fun hs => ?_)))
  all_goals (try (have hs' := hs; simp at hs'))
  all_goals (try simp [*, -getElem?_pos, eq_item])
  all_goals (try (first | refine WLV_splitN (fun hs => ?_) (fun hs => ?_) | refine WLC_splitN (fun hs => ?_) (fun hs => ?_) | refine WLB_splitN (fun hs => ?_) (fun hs => ?_) | refine WLPV_splitN (fun hs => ?_) (fun hs => ?_) | refine WLPC_splitN (fun hs => ?_) (fun hs => ?_) | refine WLPV_split (fun hs => ?_) (fun hs => ?_) | refine WLPC_split (fun hs => ?_) (fun hs => ?_) | refine WLV_split (fun hs => ?_) (fun hs => ?_) | refine WLC_split (fun hs => ?_) (fun hs => ?_) | refine WLB_split (fun hs => ?_) (fun hs => ?_)))
  all_goals (try (have hs' := hs; simp at hs'))
  all_goals (try simp [*, -getElem?_pos, eq_item])
  all_goals (try (first | refine WLV_splitN (fun hs => ?_) (fun hs => ?_) | refine WLC_splitN (fun hs => ?_) (fun hs => ?_) | refine WLB_splitN (fun hs => ?_) (fun hs => ?_) | refine WLPV_splitN (fun hs => ?_) (fun hs => ?_) | refine WLPC_splitN (fun hs => ?_) (fun hs => ?_) | refine WLPV_split (fun hs => ?_) (fun hs => ?_) | refine WLPC_split (fun hs => ?_) (fun hs => ?_) | refine WLV_split (fun hs => ?_) (fun hs => ?_) | refine WLC_split (fun hs => ?_) (fun hs => ?_) | refine WLB_split (fun hs => ?_) (fun hs => ?_)))
  all_goals (try (have hs' := hs; simp at hs'))
  all_goals (try simp [*, -getElem?_pos, eq_item])
  all_goals (try (first | refine WLV_splitN (fun hs => ?_) (fun hs => ?_) | refine WLC_splitN (fun hs => ?_) (fun hs => ?_) | refine WLB_splitN (fun hs => ?_) (fun hs => ?_) | refine WLPV_splitN (fun hs => ?_) (fun hs => ?_) | refine WLPC_splitN (fun hs => ?_) (fun hs => ?_) | refine WLPV_split (fun hs => ?_) (fun hs => ?_) | refine WLPC_split (fun hs => ?_) (fun hs => ?_) | refine WLV_split (fun hs => ?_) (fun hs => ?_) | refine WLC_split (fun hs => ?_) (fun hs => ?_) | refine WLB_split (fun hs => ?_) (fun hs => ?_)))
  all_goals (try (have hs' := hs; simp at hs'))
  all_goals (try simp [*, -getElem?_pos, eq_item])
  all_goals (try (first | refine WLV_splitN (fun hs => ?_) (fun hs => ?_) | refine WLC_splitN (fun hs => ?_) (fun hs => ?_) | refine WLB_splitN (fun hs => ?_) (fun hs => ?_) | refine WLPV_splitN (fun hs => ?_) (fun hs => ?_) | refine WLPC_splitN (fun hs => ?_) (fun hs => ?_) | refine WLPV_split (fun hs => ?_) (fun hs => ?_) | refine WLPC_split (fun hs => ?_) (fun hs => ?_) | refine WLV_split (fun hs => ?_) (fun hs => ?_) | refine WLC_split (fun hs => ?_) (fun hs => ?_) | refine WLB_split (fun hs => ?_) (fun hs => ?_)))
  all_goals (try (have hs' := hs; simp at hs'))
  all_goals (try simp [*, -getElem?_pos, eq_item])
  all_goals (try (first | refine WLV_splitN (fun hs => ?_) (fun hs => ?_) | refine WLC_splitN (fun hs => ?_) (fun hs => ?_) | refine WLB_splitN (fun hs => ?_) (fun hs => ?_) | refine WLPV_splitN (fun hs => ?_) (fun hs => ?_) | refine WLPC_splitN (fun hs => ?_) (fun hs => ?_) | refine WLPV_split (fun hs => ?_) (fun hs => ?_) | refine WLPC_split (fun hs => ?_) (fun hs => ?_) | refine WLV_split (fun hs => ?_) (fun hs => ?_) | refine WLC_split (fun hs => ?_) (fun hs => ?_) | refine WLB_split (fun hs => ?_) (fun hs => ?_)))
  all_goals (try (have hs' := hs; simp at hs'))
  all_goals (try simp [*, -getElem?_pos, eq_item])
  all_goals (try (first | refine WLV_splitN (fun hs => ?_) (fun hs => ?_) | refine WLC_splitN (fun hs => ?_) (fun hs => ?_) | refine WLB_splitN (fun hs => ?_) (fun hs => ?_) | refine WLPV_splitN (fun hs => ?_) (fun hs => ?_) | refine WLPC_splitN (fun hs => ?_) (fun hs => ?_) | refine WLPV_split (fun hs => ?_) (fun hs => ?_) | refine WLPC_split (fun hs => ?_) (fun hs => ?_) | refine WLV_split (fun hs => ?_) (fun hs => ?_) | refine WLC_split (fun hs => ?_) (fun hs => ?_) | refine WLB_split (fun hs => ?_) (fun hs => ?_)))
  all_goals (try (have hs' := hs; simp at hs'))
  all_goals (try simp [*, -getElem?_pos, eq_item])
  all_goals (try (first | refine WLV_splitN (fun hs => ?_) (fun hs => ?_) | refine WLC_splitN (fun hs => ?_) (fun hs => ?_) | refine WLB_splitN (fun hs => ?_) (fun hs => ?_) | refine WLPV_splitN (fun hs => ?_) (fun hs => ?_) | refine WLPC_splitN (fun hs => ?_) (fun hs => ?_) | refine WLPV_split (fun hs => ?_) (fun hs => ?_) | refine WLPC_split (fun hs => ?_) (fun hs => ?_) | refine WLV_split (fun hs => ?_) (fun hs => ?_) | refine WLC_split (fun hs => ?_) (fun hs => ?_) | refine WLB_split (fun hs => ?_) (fun hs => ?_)))
  all_goals (try (have hs' := hs; simp at hs'))
  all_goals (try simp [*, -getElem?_pos, eq_item])
  all_goals (try (first | refine WLV_splitN (fun hs => ?_) (fun hs => ?_) | refine WLC_splitN (fun hs => ?_) (fun hs => ?_) | refine WLB_splitN (fun hs => ?_) (fun hs => ?_) | refine WLPV_splitN (fun hs => ?_) (fun hs => ?_) | refine WLPC_splitN (fun hs => ?_) (fun hs => ?_) | refine WLPV_split (fun hs => ?_) (fun hs => ?_) | refine WLPC_split (fun hs => ?_) (fun hs => ?_) | refine WLV_split (fun hs => ?_) (fun hs => ?_) | refine WLC_split (fun hs => ?_) (fun hs => ?_) | refine WLB_split (fun hs => ?_) (fun hs => ?_)))
  all_goals (try (have hs' := hs; simp at hs'))
  all_goals (try simp [*, -getElem?_pos, eq_item])
  all_goals (try (first | refine WLV_splitN (fun hs => ?_) (fun hs => ?_) | refine WLC_splitN (fun hs => ?_) (fun hs => ?_) | refine WLB_splitN (fun hs => ?_) (fun hs => ?_) | refine WLPV_splitN (fun hs => ?_) (fun hs => ?_) | refine WLPC_splitN (fun hs => ?_) (fun hs => ?_) | refine WLPV_split (fun hs => ?_) (fun hs => ?_) | refine WLPC_split (fun hs => ?_) (fun hs => ?_) | refine WLV_split (fun hs => ?_) (fun hs => ?_) | refine WLC_split (fun hs => ?_) (fun hs => ?_) | refine WLB_split (fun hs => ?_) (fun hs => ?_)))
  all_goals (try (have hs' := hs; simp at hs'))
  all_goals (try simp [*, -getElem?_pos, eq_item])
  all_goals (try (first | refine WLV_splitN (fun hs => ?_) (fun hs => ?_) | refine WLC_splitN (fun hs => ?_) (fun hs => ?_) | refine WLB_splitN (fun hs => ?_) (fun hs => ?_) | refine WLPV_splitN (fun hs => ?_) (fun hs => ?_) | refine WLPC_splitN (fun hs => ?_) (fun hs => ?_) | refine WLPV_split (fun hs => ?_) (fun hs => ?_) | refine WLPC_split (fun hs => ?_) (fun hs => ?_) | refine WLV_split (fun hs => ?_) (fun hs => ?_) | refine WLC_split (fun hs => ?_) (fun hs => ?_) | refine WLB_split (fun hs => ?_) (fun hs => ?_)))
  all_goals (try (have hs' := hs; simp at hs'))
  all_goals (try simp [*, -getElem?_pos, eq_item])
noncomputable abbrev msg_Same_F := same_F
end Go.Proofs.YtfifgiopdbdeoaaDoor.Lite
namespace Go.Proofs.YtfifgiopdbdeoaaDoor.Lite
open Go
attribute [local simp] WL_of WL_nil WL_blk WL_skip WL_label WL_exit WL_goto WL_seq WL_block WL_cond WL_reg WL_ret WJ_nil WJ_ex WJ_gt WJ_rt WJ_exb WJ_gtb WJ_rtb WLO_nil WLO_call WO_nw stepN WO_mv WO_pick WO_new WO_box WO_ld WO_ldn WO_st WO_off WO_ixa WO_ixs WO_fld WO_fldn WO_ixv WO_ixvn WO_ixb WO_bin WO_eqb WO_isn WO_eqs WO_not WO_conv WO_mkf WO_bld WO_bls WO_sla WO_sls WO_sl0 WO_len WO_app WO_mnx WO_ext WO_nilc wants_none wants_some wantv_b wantv_t WLV_true WLV_false WLC_false WLB_true WLB_false evX_t evX_c evXs_nil evXs_cons look_put look_putN look_cons look_arg0 look_arg stepK binOpA intOp strOp evRes oneOf outs gc toDV AV.dat? I Bo av_s List.map List.append_nil getO putO AV.cellsOf bne WL_dreg WLP_nil WLP_call WP_mv WP_pick WP_new WP_box WP_ld WP_ldn WP_off WP_ixa WP_ixs WP_fld WP_fldn WP_ixv WP_ixvn WP_ixb WP_bin WP_eqb WP_isn WP_eqs WP_not WP_conv WP_mkf WP_bld WP_bls WP_sla WP_sls WP_sl0 WP_len WP_app WP_mnx WP_ext WP_nilc WLPV_true WLPV_false WLPC_false WLC_tells WLPC_tells padH onNm onEx List.getElem?_cons_zero List.getElem?_cons_succ List.getElem?_nil restrict AV.lows lay AV.isCell lowObj AObj.lows WJ_nm AV.lows.go WL_scope onGt_rt onGt_nm onGt_ex WL_sreg WP_st preSt eraseB List.set_cons_zero List.set_cons_succ frz cutR cutAs cutA WL_sregT cutB cutBs

def L19 : CCode := (.loop [2, 3, 5] (.seq (.seq (.reg (⟨(some 13), .mv (.t 5), none⟩ ::
    ⟨(some 14), .off 9 (.t 2), none⟩ ::
    ⟨(some 15), .ld (.t 14), none⟩ ::
    ⟨(some 16), .len false (.t 15), none⟩ ::
    ⟨(some 17), .bin .lss (.t 13) (.t 16), none⟩ ::
    []))
  (.cond (.t 17) .skip (.exit 0)))
  (.seq (.block 1 (.seq (.dreg (⟨(some 20), .off 9 (.t 2), none⟩ ::
    ⟨(some 21), .ld (.t 20), none⟩ ::
    ⟨(some 22), .mv (.t 5), none⟩ ::
    ⟨(some 23), .ixs 1 (.t 21) (.t 22), none⟩ ::
    ⟨(some 24), .ld (.t 23), none⟩ ::
    ⟨(some 25), .off 9 (.t 3), none⟩ ::
    ⟨(some 26), .ld (.t 25), none⟩ ::
    ⟨(some 27), .mv (.t 5), none⟩ ::
    ⟨(some 28), .ixs 1 (.t 26) (.t 27), none⟩ ::
    ⟨(some 29), .ld (.t 28), none⟩ ::
    []) (⟨(some 30), .bin .neq (.t 24) (.t 29), none⟩ ::
    []))
  (.cond (.t 30) (.seq (.reg (⟨(some 4), .mv (.c (.d (.bool false))), none⟩ ::
    []))
  .ret) .skip)))
  (.reg (⟨(some 18), .mv (.t 5), none⟩ ::
    ⟨(some 19), .bin .add (.t 18) (.c (.d (.int .i64 1))), none⟩ ::
    ⟨(some 5), .mv (.t 19), none⟩ ::
    [])))))
theorem L19_eq : L19 = .loop [2, 3, 5] (.seq (.seq (.reg (⟨(some 13), .mv (.t 5), none⟩ ::
    ⟨(some 14), .off 9 (.t 2), none⟩ ::
    ⟨(some 15), .ld (.t 14), none⟩ ::
    ⟨(some 16), .len false (.t 15), none⟩ ::
    ⟨(some 17), .bin .lss (.t 13) (.t 16), none⟩ ::
    []))
  (.cond (.t 17) .skip (.exit 0)))
  (.seq (.block 1 (.seq (.dreg (⟨(some 20), .off 9 (.t 2), none⟩ ::
    ⟨(some 21), .ld (.t 20), none⟩ ::
    ⟨(some 22), .mv (.t 5), none⟩ ::
    ⟨(some 23), .ixs 1 (.t 21) (.t 22), none⟩ ::
    ⟨(some 24), .ld (.t 23), none⟩ ::
    ⟨(some 25), .off 9 (.t 3), none⟩ ::
    ⟨(some 26), .ld (.t 25), none⟩ ::
    ⟨(some 27), .mv (.t 5), none⟩ ::
    ⟨(some 28), .ixs 1 (.t 26) (.t 27), none⟩ ::
    ⟨(some 29), .ld (.t 28), none⟩ ::
    []) (⟨(some 30), .bin .neq (.t 24) (.t 29), none⟩ ::
    []))
  (.cond (.t 30) (.seq (.reg (⟨(some 4), .mv (.c (.d (.bool false))), none⟩ ::
    []))
  .ret) .skip)))
  (.reg (⟨(some 18), .mv (.t 5), none⟩ ::
    ⟨(some 19), .bin .add (.t 18) (.c (.d (.int .i64 1))), none⟩ ::
    ⟨(some 5), .mv (.t 19), none⟩ ::
    [])))) := rfl
def hp19 (a b : MW) : Heap := [some (.cells a.cs), some (.cells b.cs)]
theorem mcs_9 (m : MW) : m.cs[9]? = some (vsI m.lst) := rfl
theorem same19_loop (a b : MW) (hlr : a.lst.length = b.lst.length) : ∀ (k i : Nat), a.lst.length - i = k → i ≤ a.lst.length → ∀ (env : Env), look env 2 = some (.ptr 0 0) → look env 3 = some (.ptr 1 0) → look env 5 = some (.d (.int .i64 i)) →
    ∀ (Q : Ex → Env → St → Prop), (a.lst.drop i = b.lst.drop i → ∀ env', look env' 2 = some (.ptr 0 0) → look env' 3 = some (.ptr 1 0) → Q (.ex 0) env' ⟨hp19 a b, []⟩) → (a.lst.drop i ≠ b.lst.drop i → ∀ env' h', look env' 4 = some (.d (.bool false)) → Q .rt env' ⟨h', []⟩) → W (tbl []) ⟨[], 0⟩ L19 env ⟨hp19 a b, []⟩ Q := by
  have hl := a.hl
  intro k
  induction k with
  | zero =>
    intro i hk hi env h2 h3 h5 Q hQ1 hQ2
    have hlt : ¬ i < a.lst.length := by omega
    have hlt' : ¬ i < b.lst.length := by omega
    rw [L19_eq, W_loop]
    simp [-getElem?_pos, hp19, h2, h3, h5, mcs_9, stepK.lenA, rowsI_length, hlt, hlt']
    refine hQ1 (by rw [List.drop_eq_nil_of_le (by omega), List.drop_eq_nil_of_le (by omega)]) _ ?_ ?_ <;> simp [-getElem?_pos, h2, h3]
  | succ k ih =>
    intro i hk hi env h2 h3 h5 Q hQ1 hQ2
    have hlt : i < a.lst.length := by omega
    have hlt' : i < b.lst.length := by omega
    obtain ⟨m, hn⟩ : ∃ m, a.lst[i]? = some m := ⟨_, List.getElem?_eq_getElem hlt⟩
    obtain ⟨m2, hn2⟩ : ∃ m, b.lst[i]? = some m := ⟨_, List.getElem?_eq_getElem (by omega)⟩
    have hd : a.lst.drop i = m :: a.lst.drop (i + 1) := by rw [List.drop_eq_getElem_cons hlt]; congr 1; exact (List.getElem?_eq_some_iff.1 hn).2
    have hd2 : b.lst.drop i = m2 :: b.lst.drop (i + 1) := by rw [List.drop_eq_getElem_cons (by omega)]; congr 1; exact (List.getElem?_eq_some_iff.1 hn2).2
    have hw := wrapN1 i (by omega)
    rw [L19_eq, W_loop]
    simp [-getElem?_pos, hp19, h2, h3, h5, mcs_9, stepK.lenA, rowsI_length, hlt, hlt', rowsI_get, hn, hn2, mcs_all, mcs_lows, -Int.natCast_add]
    all_goals (try (first | refine WLV_splitN (fun hs => ?_) (fun hs => ?_) | refine WLC_splitN (fun hs => ?_) (fun hs => ?_) | refine WLB_splitN (fun hs => ?_) (fun hs => ?_) | refine WLPV_splitN (fun hs => ?_) (fun hs => ?_) | refine WLPC_splitN (fun hs => ?_) (fun hs => ?_) | refine WLPV_split (fun hs => ?_) (fun hs => ?_) | refine WLPC_split (fun hs => ?_) (fun hs => ?_) | refine WLV_split (fun hs => ?_) (fun hs => ?_) | refine WLC_split (fun hs => ?_) (fun hs => ?_) | refine WLB_split (fun hs => ?_) (fun hs => ?_)))
    all_goals (try (have hs' := hs; simp at hs'))
    all_goals (try simp [*, -getElem?_pos, hp19, h2, h3, h5, mcs_9, mcs_all, mcs_lows, -Int.natCast_add])
    all_goals first
      | (refine hQ2 (by rw [hd, hd2]; simp [*]) _ _ ?_; simp [-getElem?_pos]; done)
      | (refine (WL_of (c := L19)).1 (ih (i + 1) (by omega) (by omega) _ ?_ ?_ ?_ Q (fun h => hQ1 ?_) (fun h => hQ2 ?_))
         · simp [-getElem?_pos, h2]
         · simp [-getElem?_pos, h3]
         · simp [-getElem?_pos, hw, -Int.natCast_add]
         · rw [hd, hd2, h]; simp [*]
         · rw [hd, hd2]; simp [*])
theorem mcs_4 (m : MW) : m.cs[4]? = some (.d (.int .i64 m.key)) := rfl
theorem mcs_5 (m : MW) : m.cs[5]? = some (.d (.bool m.slow)) := rfl
theorem mcs_6 (m : MW) : m.cs[6]? = some (.d (.bool m.fin)) := rfl
theorem mcs_7 (m : MW) : m.cs[7]? = some (.d (.int .i64 m.place)) := rfl
theorem mcs_8 (m : MW) : m.cs[8]? = some (.d (.int .i64 m.pred)) := rfl
theorem mcs_14 (m : MW) : m.cs[14]? = some (.d (.int .i64 m.code)) := rfl
theorem mcs_it (m : MW) : (m.cs.drop 10).take 4 = [.d (.str m.ikey), .d (.int .i64 m.ival), .d (.int .i64 m.iver), .d (.bool m.gone)] := rfl
theorem garlandref06_Same : Pure Tryd.prog 42 same_F := by
  refine con (T := tbl []) (tbl_ok (by simp)) rfl rfl fun ⟨a, b⟩ _ => ⟨rfl, ?_⟩
  by_cases hlr : a.lst.length = b.lst.length
  · simp [cf42, Mg_av, -getElem?_pos, mcs_9, stepK.lenA, rowsI_length, hlr]
    rw [WL_code]
    refine same19_loop a b hlr a.lst.length 0 (by omega) (by omega) _ ?_ ?_ ?_ _ (fun h env' h2 h3 => ?_) (fun h env' h' h4 => ?_)
    all_goals (try (simp [-getElem?_pos]; done))
    · simp only [List.drop_zero] at h
      have e : (a.lst == b.lst) = true := by rw [h]; simp
      simp [-getElem?_pos, hp19, h2, h3, mcs_0, mcs_1, mcs_2, mcs_3, mcs_4, mcs_5, mcs_6, mcs_7, mcs_8, mcs_14, mcs_len, mcs_it, eq_item, MW.same, e]
      all_goals (try (first | refine WLV_splitN (fun hs => ?_) (fun hs => ?_) | refine WLC_splitN (fun hs => ?_) (fun hs => ?_) | refine WLB_splitN (fun hs => ?_) (fun hs => ?_) | refine WLPV_splitN (fun hs => ?_) (fun hs => ?_) | refine WLPC_splitN (fun hs => ?_) (fun hs => ?_) | refine WLPV_split (fun hs => ?_) (fun hs => ?_) | refine WLPC_split (fun hs => ?_) (fun hs => ?_) | refine WLV_split (fun hs => ?_) (fun hs => ?_) | refine WLC_split (fun hs => ?_) (fun hs => ?_) | refine WLB_split (fun hs => ?_) (fun hs => ?_)))
      all_goals (try (have hs' := hs; simp at hs'))
      all_goals (try simp [*, -getElem?_pos, mcs_0, mcs_1, mcs_2, mcs_3, mcs_4, mcs_5, mcs_6, mcs_7, mcs_8, mcs_14, mcs_len, mcs_it, eq_item])
      all_goals (try (first | refine WLV_splitN (fun hs => ?_) (fun hs => ?_) | refine WLC_splitN (fun hs => ?_) (fun hs => ?_) | refine WLB_splitN (fun hs => ?_) (fun hs => ?_) | refine WLPV_splitN (fun hs => ?_) (fun hs => ?_) | refine WLPC_splitN (fun hs => ?_) (fun hs => ?_) | refine WLPV_split (fun hs => ?_) (fun hs => ?_) | refine WLPC_split (fun hs => ?_) (fun hs => ?_) | refine WLV_split (fun hs => ?_) (fun hs => ?_) | refine WLC_split (fun hs => ?_) (fun hs => ?_) | refine WLB_split (fun hs => ?_) (fun hs => ?_)))
      all_goals (try (have hs' := hs; simp at hs'))
      all_goals (try simp [*, -getElem?_pos, mcs_0, mcs_1, mcs_2, mcs_3, mcs_4, mcs_5, mcs_6, mcs_7, mcs_8, mcs_14, mcs_len, mcs_it, eq_item])
      all_goals (try (first | refine WLV_splitN (fun hs => ?_) (fun hs => ?_) | refine WLC_splitN (fun hs => ?_) (fun hs => ?_) | refine WLB_splitN (fun hs => ?_) (fun hs => ?_) | refine WLPV_splitN (fun hs => ?_) (fun hs => ?_) | refine WLPC_splitN (fun hs => ?_) (fun hs => ?_) | refine WLPV_split (fun hs => ?_) (fun hs => ?_) | refine WLPC_split (fun hs => ?_) (fun hs => ?_) | refine WLV_split (fun hs => ?_) (fun hs => ?_) | refine WLC_split (fun hs => ?_) (fun hs => ?_) | refine WLB_split (fun hs => ?_) (fun hs => ?_)))
      all_goals (try (have hs' := hs; simp at hs'))
      all_goals (try simp [*, -getElem?_pos, mcs_0, mcs_1, mcs_2, mcs_3, mcs_4, mcs_5, mcs_6, mcs_7, mcs_8, mcs_14, mcs_len, mcs_it, eq_item])
      all_goals (try (first | refine WLV_splitN (fun hs => ?_) (fun hs => ?_) | refine WLC_splitN (fun hs => ?_) (fun hs => ?_) | refine WLB_splitN (fun hs => ?_) (fun hs => ?_) | refine WLPV_splitN (fun hs => ?_) (fun hs => ?_) | refine WLPC_splitN (fun hs => ?_) (fun hs => ?_) | refine WLPV_split (fun hs => ?_) (fun hs => ?_) | refine WLPC_split (fun hs => ?_) (fun hs => ?_) | refine WLV_split (fun hs => ?_) (fun hs => ?_) | refine WLC_split (fun hs => ?_) (fun hs => ?_) | refine WLB_split (fun hs => ?_) (fun hs => ?_)))
      all_goals (try (have hs' := hs; simp at hs'))
      all_goals (try simp [*, -getElem?_pos, mcs_0, mcs_1, mcs_2, mcs_3, mcs_4, mcs_5, mcs_6, mcs_7, mcs_8, mcs_14, mcs_len, mcs_it, eq_item])
      all_goals (try (first | refine WLV_splitN (fun hs => ?_) (fun hs => ?_) | refine WLC_splitN (fun hs => ?_) (fun hs => ?_) | refine WLB_splitN (fun hs => ?_) (fun hs => ?_) | refine WLPV_splitN (fun hs => ?_) (fun hs => ?_) | refine WLPC_splitN (fun hs => ?_) (fun hs => ?_) | refine WLPV_split (fun hs => ?_) (fun hs => ?_) | refine WLPC_split (fun hs => ?_) (fun hs => ?_) | refine WLV_split (fun hs => ?_) (fun hs => ?_) | refine WLC_split (fun hs => ?_) (fun hs => ?_) | refine WLB_split (fun hs => ?_) (fun hs => ?_)))
      all_goals (try (have hs' := hs; simp at hs'))
      all_goals (try simp [*, -getElem?_pos, mcs_0, mcs_1, mcs_2, mcs_3, mcs_4, mcs_5, mcs_6, mcs_7, mcs_8, mcs_14, mcs_len, mcs_it, eq_item])
      all_goals (try (first | refine WLV_splitN (fun hs => ?_) (fun hs => ?_) | refine WLC_splitN (fun hs => ?_) (fun hs => ?_) | refine WLB_splitN (fun hs => ?_) (fun hs => ?_) | refine WLPV_splitN (fun hs => ?_) (fun hs => ?_) | refine WLPC_splitN (fun hs => ?_) (fun hs => ?_) | refine WLPV_split (fun hs => ?_) (fun hs => ?_) | refine WLPC_split (fun hs => ?_) (fun hs => ?_) | refine WLV_split (fun hs => ?_) (fun hs => ?_) | refine WLC_split (fun hs => ?_) (fun hs => ?_) | refine WLB_split (fun hs => ?_) (fun hs => ?_)))
      all_goals (try (have hs' := hs; simp at hs'))
      all_goals (try simp [*, -getElem?_pos, mcs_0, mcs_1, mcs_2, mcs_3, mcs_4, mcs_5, mcs_6, mcs_7, mcs_8, mcs_14, mcs_len, mcs_it, eq_item])
      all_goals (try (first | refine WLV_splitN (fun hs => ?_) (fun hs => ?_) | refine WLC_splitN (fun hs => ?_) (fun hs => ?_) | refine WLB_splitN (fun hs => ?_) (fun hs => ?_) | refine WLPV_splitN (fun hs => ?_) (fun hs => ?_) | refine WLPC_splitN (fun hs => ?_) (fun hs => ?_) | refine WLPV_split (fun hs => ?_) (fun hs => ?_) | refine WLPC_split (fun hs => ?_) (fun hs => ?_) | refine WLV_split (fun hs => ?_) (fun hs => ?_) | refine WLC_split (fun hs => ?_) (fun hs => ?_) | refine WLB_split (fun hs => ?_) (fun hs => ?_)))
      all_goals (try (have hs' := hs; simp at hs'))
      all_goals (try simp [*, -getElem?_pos, mcs_0, mcs_1, mcs_2, mcs_3, mcs_4, mcs_5, mcs_6, mcs_7, mcs_8, mcs_14, mcs_len, mcs_it, eq_item])
      all_goals (try (first | refine WLV_splitN (fun hs => ?_) (fun hs => ?_) | refine WLC_splitN (fun hs => ?_) (fun hs => ?_) | refine WLB_splitN (fun hs => ?_) (fun hs => ?_) | refine WLPV_splitN (fun hs => ?_) (fun hs => ?_) | refine WLPC_splitN (fun hs => ?_) (fun hs => ?_) | refine WLPV_split (fun hs => ?_) (fun hs => ?_) | refine WLPC_split (fun hs => ?_) (fun hs => ?_) | refine WLV_split (fun hs => ?_) (fun hs => ?_) | refine WLC_split (fun hs => ?_) (fun hs => ?_) | refine WLB_split (fun hs => ?_) (fun hs => ?_)))
      all_goals (try (have hs' := hs; simp at hs'))
      all_goals (try simp [*, -getElem?_pos, mcs_0, mcs_1, mcs_2, mcs_3, mcs_4, mcs_5, mcs_6, mcs_7, mcs_8, mcs_14, mcs_len, mcs_it, eq_item])
      all_goals (try (first | refine WLV_splitN (fun hs => ?_) (fun hs => ?_) | refine WLC_splitN (fun hs => ?_) (fun hs => ?_) | refine WLB_splitN (fun hs => ?_) (fun hs => ?_) | refine WLPV_splitN (fun hs => ?_) (fun hs => ?_) | refine WLPC_splitN (fun hs => ?_) (fun hs => ?_) | refine WLPV_split (fun hs => ?_) (fun hs => ?_) | refine WLPC_split (fun hs => ?_) (fun hs => ?_) | refine WLV_split (fun hs => ?_) (fun hs => ?_) | refine WLC_split (fun hs => ?_) (fun hs => ?_) | refine WLB_split (fun hs => ?_) (fun hs => ?_)))
      all_goals (try (have hs' := hs; simp at hs'))
      all_goals (try simp [*, -getElem?_pos, mcs_0, mcs_1, mcs_2, mcs_3, mcs_4, mcs_5, mcs_6, mcs_7, mcs_8, mcs_14, mcs_len, mcs_it, eq_item])
      all_goals (try (first | refine WLV_splitN (fun hs => ?_) (fun hs => ?_) | refine WLC_splitN (fun hs => ?_) (fun hs => ?_) | refine WLB_splitN (fun hs => ?_) (fun hs => ?_) | refine WLPV_splitN (fun hs => ?_) (fun hs => ?_) | refine WLPC_splitN (fun hs => ?_) (fun hs => ?_) | refine WLPV_split (fun hs => ?_) (fun hs => ?_) | refine WLPC_split (fun hs => ?_) (fun hs => ?_) | refine WLV_split (fun hs => ?_) (fun hs => ?_) | refine WLC_split (fun hs => ?_) (fun hs => ?_) | refine WLB_split (fun hs => ?_) (fun hs => ?_)))
      all_goals (try (have hs' := hs; simp at hs'))
      all_goals (try simp [*, -getElem?_pos, mcs_0, mcs_1, mcs_2, mcs_3, mcs_4, mcs_5, mcs_6, mcs_7, mcs_8, mcs_14, mcs_len, mcs_it, eq_item])
      all_goals (try (first | refine WLV_splitN (fun hs => ?_) (fun hs => ?_) | refine WLC_splitN (fun hs => ?_) (fun hs => ?_) | refine WLB_splitN (fun hs => ?_) (fun hs => ?_) | refine WLPV_splitN (fun hs => ?_) (fun hs => ?_) | refine WLPC_splitN (fun hs => ?_) (fun hs => ?_) | refine WLPV_split (fun hs => ?_) (fun hs => ?_) | refine WLPC_split (fun hs => ?_) (fun hs => ?_) | refine WLV_split (fun hs => ?_) (fun hs => ?_) | refine WLC_split (fun hs => ?_) (fun hs => ?_) | refine WLB_split (fun hs => ?_) (fun hs => ?_)))
      all_goals (try (have hs' := hs; simp at hs'))
      all_goals (try simp [*, -getElem?_pos, mcs_0, mcs_1, mcs_2, mcs_3, mcs_4, mcs_5, mcs_6, mcs_7, mcs_8, mcs_14, mcs_len, mcs_it, eq_item])
    · simp only [List.drop_zero] at h
      have e : (a.lst == b.lst) = false := by rw [beq_eq_false_iff_ne]; exact h
      simp [-getElem?_pos, h4, MW.same, e]
  · have e : ((a.lst.length : Int) == (b.lst.length : Int)) = false := by rw [beq_eq_false_iff_ne]; omega
    have e2 : (a.lst == b.lst) = false := by rw [beq_eq_false_iff_ne]; intro h; rw [h] at hlr; exact hlr rfl
    simp [cf42, Mg_av, -getElem?_pos, mcs_9, stepK.lenA, rowsI_length, e, e2, hlr, MW.same]
noncomputable abbrev garlandref06_Same_F := same_F
end Go.Proofs.YtfifgiopdbdeoaaDoor.Lite
namespace Go.Proofs.YtfifgiopdbdeoaaDoor.Lite
open Go
attribute [local simp] WL_of WL_nil WL_blk WL_skip WL_label WL_exit WL_goto WL_seq WL_block WL_cond WL_reg WL_ret WJ_nil WJ_ex WJ_gt WJ_rt WJ_exb WJ_gtb WJ_rtb WLO_nil WLO_call WO_nw stepN WO_mv WO_pick WO_new WO_box WO_ld WO_ldn WO_st WO_off WO_ixa WO_ixs WO_fld WO_fldn WO_ixv WO_ixvn WO_ixb WO_bin WO_eqb WO_isn WO_eqs WO_not WO_conv WO_mkf WO_bld WO_bls WO_sla WO_sls WO_sl0 WO_len WO_app WO_mnx WO_ext WO_nilc wants_none wants_some wantv_b wantv_t WLV_true WLV_false WLC_false WLB_true WLB_false evX_t evX_c evXs_nil evXs_cons look_put look_putN look_cons look_arg0 look_arg stepK binOpA intOp strOp evRes oneOf outs gc toDV AV.dat? I Bo av_s List.map List.append_nil getO putO AV.cellsOf bne WL_dreg WLP_nil WLP_call WP_mv WP_pick WP_new WP_box WP_ld WP_ldn WP_off WP_ixa WP_ixs WP_fld WP_fldn WP_ixv WP_ixvn WP_ixb WP_bin WP_eqb WP_isn WP_eqs WP_not WP_conv WP_mkf WP_bld WP_bls WP_sla WP_sls WP_sl0 WP_len WP_app WP_mnx WP_ext WP_nilc WLPV_true WLPV_false WLPC_false WLC_tells WLPC_tells padH onNm onEx List.getElem?_cons_zero List.getElem?_cons_succ List.getElem?_nil restrict AV.lows lay AV.isCell lowObj AObj.lows WJ_nm AV.lows.go WL_scope onGt_rt onGt_nm onGt_ex WL_sreg WP_st preSt eraseB List.set_cons_zero List.set_cons_succ frz cutR cutAs cutA WL_sregT cutB cutBs

def MW.bare (m : MW) : MW :=
  if m.kind = 4 then { m with key := 0, slow := false }
  else if m.kind = 5 ∨ m.kind = 6 then { m with ikey := [], ival := 0, iver := 0, gone := false }
  else if m.kind = 7 then { m with pred := 0, lst := [], hl := by decide }
  else if m.kind = 10 then { m with place := 0, fin := false }
  else if m.kind = 11 then { m with code := 0 }
  else if m.kind = 12 then { m with code := 0, ikey := [], ival := 0, iver := 0, gone := false }
  else m
noncomputable def bare_F := orcOf (fun m : MW => [Mg m]) (fun _ => True) (fun m => [Mg m.bare])
theorem MW.flat_or (m : MW) (xs : List AV) (h : AsM xs m) {b : Bool} : (!([AV.agg xs] : List AV).any AV.tied || b) = true := by simp [h.t]
instance (xs : List AV) (m : MW) [h : AsM xs m] : Tells bare_F [.agg xs] (.agg m.bare.cs) := ⟨[Mg m], [Mg m.bare], fun hp => by simp only [toDVs, asM_to h], orcM m, rfl, MW.flat_or m xs h, fun N M => by simp [AV.lows, h.l]⟩
theorem kinds (k : Int) : k = 4 ∨ k = 5 ∨ k = 6 ∨ k = 7 ∨ k = 10 ∨ k = 11 ∨ k = 12 ∨ (k ≠ 4 ∧ k ≠ 5 ∧ k ≠ 6 ∧ k ≠ 7 ∧ k ≠ 10 ∧ k ≠ 11 ∧ k ≠ 12) := by omega
theorem garlandref06_bare : Pure Tryd.prog 54 bare_F := by
  refine con (T := tbl []) (tbl_ok (by simp)) rfl rfl fun m _ => ⟨rfl, ?_⟩
  obtain ⟨kind, call, src, dest, key, slow, fin, place, pred, lst, ikey, ival, iver, gone, code, hl⟩ := m
  rcases kinds kind with h | h | h | h | h | h | h | ⟨h1, h2, h3, h4, h5, h6, h7⟩
  all_goals (try subst h)
  all_goals (try have e1 := beq_eq_false_iff_ne.2 h1)
  all_goals (try have e2 := beq_eq_false_iff_ne.2 h2)
  all_goals (try have e3 := beq_eq_false_iff_ne.2 h3)
  all_goals (try have e4 := beq_eq_false_iff_ne.2 h4)
  all_goals (try have e5 := beq_eq_false_iff_ne.2 h5)
  all_goals (try have e6 := beq_eq_false_iff_ne.2 h6)
  all_goals (try have e7 := beq_eq_false_iff_ne.2 h7)
  all_goals simp [cf54, Mg_av, -getElem?_pos, MW.cs, MW.bare, fillA, *]
  all_goals exact ⟨_, rfl, rfl⟩
noncomputable abbrev garlandref06_bare_F := bare_F
def MW.it (m : MW) : IW := ⟨m.ikey, m.ival, m.iver, m.gone⟩
def MW.fine (m : MW) : Bool :=
  if m.kind = 4 then isPlace m.key
  else if m.kind = 5 then m.it.pair
  else if m.kind = 6 then keyB m.ikey
  else if m.kind = 7 then (m.pred == -1 || isPlace m.pred) && listOk m.lst m.src
  else if m.kind = 10 then isPlace m.place
  else if m.kind = 11 then m.code == 0 || m.code == 200
  else if m.kind = 12 then (m.code == 0 && m.it.pair) || (m.code == 201 && (m.ikey == [] && m.ival == 0 && m.iver == 0 && m.gone == false))
  else true
def MW.has (m : MW) : Bool := if m.kind = 6 then m.it.pair && (m.ival == 0 && m.iver == 0 && m.gone == false) else m.fine
noncomputable def fine_F := orcOf (fun m : MW => [Mg m]) (fun _ => True) (fun m => [Bo m.fine])
noncomputable def has_F := orcOf (fun m : MW => [Mg m]) (fun _ => True) (fun m => [Bo m.has])
instance (xs : List AV) (m : MW) [h : AsM xs m] : Tells fine_F [.agg xs] (.d (.bool m.fine)) := ⟨[Mg m], [Bo m.fine], fun hp => by simp only [toDVs, asM_to h], orcM m, rfl, MW.flat_or m xs h, fun N M => by simp [AV.lows, h.l]⟩
instance (xs : List AV) (m : MW) [h : AsM xs m] : Tells has_F [.agg xs] (.d (.bool m.has)) := ⟨[Mg m], [Bo m.has], fun hp => by simp only [toDVs, asM_to h], orcM m, rfl, MW.flat_or m xs h, fun N M => by simp [AV.lows, h.l]⟩
noncomputable def TMF : Tbl := tbl [(84, msg_place_F), (70, msg_Pair_F), (111, msg_key_F), (120, msg_list_F)]
theorem TMF_ok : TblOK Tryd.prog TMF := tbl_ok (by
  simp only [List.mem_cons, List.not_mem_nil, or_false]
  rintro p (rfl | rfl | rfl | rfl)
  · exact msg_place
  · exact msg_Pair
  · exact msg_key
  · exact msg_list)
instance : Has TMF 84 msg_place_F := ⟨rfl⟩
instance : Has TMF 70 msg_Pair_F := ⟨rfl⟩
instance : Has TMF 111 msg_key_F := ⟨rfl⟩
instance : Has TMF 120 msg_list_F := ⟨rfl⟩

theorem msg_fine : Pure Tryd.prog 86 fine_F := by
  refine con TMF_ok rfl rfl fun m _ => ⟨rfl, ?_⟩
  obtain ⟨kind, call, src, dest, key, slow, fin, place, pred, lst, ikey, ival, iver, gone, code, hl⟩ := m
  haveI : Fact (lst.length < 9223372036854775808) := ⟨hl⟩
  rcases kinds kind with h | h | h | h | h | h | h | ⟨h1, h2, h3, h4, h5, h6, h7⟩
  all_goals (try subst h)
  all_goals (try have e1 := beq_eq_false_iff_ne.2 h1)
  all_goals (try have e2 := beq_eq_false_iff_ne.2 h2)
  all_goals (try have e3 := beq_eq_false_iff_ne.2 h3)
  all_goals (try have e4 := beq_eq_false_iff_ne.2 h4)
  all_goals (try have e5 := beq_eq_false_iff_ne.2 h5)
  all_goals (try have e6 := beq_eq_false_iff_ne.2 h6)
  all_goals (try have e7 := beq_eq_false_iff_ne.2 h7)
  all_goals simp [cf86, Mg_av, -getElem?_pos, MW.cs, MW.fine, MW.it, fillA, eq_item, *]
  all_goals (try (first | refine WLV_splitN (fun hs => ?_) (fun hs => ?_) | refine WLC_splitN (fun hs => ?_) (fun hs => ?_) | refine WLB_splitN (fun hs => ?_) (fun hs => ?_) | refine WLPV_splitN (fun hs => ?_) (fun hs => ?_) | refine WLPC_splitN (fun hs => ?_) (fun hs => ?_) | refine WLPV_split (fun hs => ?_) (fun hs => ?_) | refine WLPC_split (fun hs => ?_) (fun hs => ?_) | refine WLV_split (fun hs => ?_) (fun hs => ?_) | refine WLC_split (fun hs => ?_) (fun hs => ?_) | refine WLB_split (fun hs => ?_) (fun hs => ?_)))
  all_goals (try (have hs' := hs; simp at hs'))
  all_goals (try simp [*, -getElem?_pos, eq_item, fillA])
  all_goals (try (first | refine WLV_splitN (fun hs => ?_) (fun hs => ?_) | refine WLC_splitN (fun hs => ?_) (fun hs => ?_) | refine WLB_splitN (fun hs => ?_) (fun hs => ?_) | refine WLPV_splitN (fun hs => ?_) (fun hs => ?_) | refine WLPC_splitN (fun hs => ?_) (fun hs => ?_) | refine WLPV_split (fun hs => ?_) (fun hs => ?_) | refine WLPC_split (fun hs => ?_) (fun hs => ?_) | refine WLV_split (fun hs => ?_) (fun hs => ?_) | refine WLC_split (fun hs => ?_) (fun hs => ?_) | refine WLB_split (fun hs => ?_) (fun hs => ?_)))
  all_goals (try (have hs' := hs; simp at hs'))
  all_goals (try simp [*, -getElem?_pos, eq_item, fillA])
  all_goals (try (first | refine WLV_splitN (fun hs => ?_) (fun hs => ?_) | refine WLC_splitN (fun hs => ?_) (fun hs => ?_) | refine WLB_splitN (fun hs => ?_) (fun hs => ?_) | refine WLPV_splitN (fun hs => ?_) (fun hs => ?_) | refine WLPC_splitN (fun hs => ?_) (fun hs => ?_) | refine WLPV_split (fun hs => ?_) (fun hs => ?_) | refine WLPC_split (fun hs => ?_) (fun hs => ?_) | refine WLV_split (fun hs => ?_) (fun hs => ?_) | refine WLC_split (fun hs => ?_) (fun hs => ?_) | refine WLB_split (fun hs => ?_) (fun hs => ?_)))
  all_goals (try (have hs' := hs; simp at hs'))
  all_goals (try simp [*, -getElem?_pos, eq_item, fillA])
noncomputable abbrev msg_fine_F := fine_F
noncomputable def TMH : Tbl := tbl [(52, garlandref06_place_F), (97, garlandref06_Pair_F), (98, garlandref06_list_F)]
theorem TMH_ok : TblOK Tryd.prog TMH := tbl_ok (by
  simp only [List.mem_cons, List.not_mem_nil, or_false]
  rintro p (rfl | rfl | rfl)
  · exact garlandref06_place
  · exact garlandref06_Pair
  · exact garlandref06_list)
instance : Has TMH 52 garlandref06_place_F := ⟨rfl⟩
instance : Has TMH 97 garlandref06_Pair_F := ⟨rfl⟩
instance : Has TMH 98 garlandref06_list_F := ⟨rfl⟩

theorem garlandref06_has : Pure Tryd.prog 55 has_F := by
  refine con TMH_ok rfl rfl fun m _ => ⟨rfl, ?_⟩
  obtain ⟨kind, call, src, dest, key, slow, fin, place, pred, lst, ikey, ival, iver, gone, code, hl⟩ := m
  haveI : Fact (lst.length < 9223372036854775808) := ⟨hl⟩
  rcases kinds kind with h | h | h | h | h | h | h | ⟨h1, h2, h3, h4, h5, h6, h7⟩
  all_goals (try subst h)
  all_goals (try have e1 := beq_eq_false_iff_ne.2 h1)
  all_goals (try have e2 := beq_eq_false_iff_ne.2 h2)
  all_goals (try have e3 := beq_eq_false_iff_ne.2 h3)
  all_goals (try have e4 := beq_eq_false_iff_ne.2 h4)
  all_goals (try have e5 := beq_eq_false_iff_ne.2 h5)
  all_goals (try have e6 := beq_eq_false_iff_ne.2 h6)
  all_goals (try have e7 := beq_eq_false_iff_ne.2 h7)
  all_goals simp [cf55, Mg_av, -getElem?_pos, MW.cs, MW.has, MW.fine, MW.it, fillA, eq_item, *]
  all_goals (try (first | refine WLV_splitN (fun hs => ?_) (fun hs => ?_) | refine WLC_splitN (fun hs => ?_) (fun hs => ?_) | refine WLB_splitN (fun hs => ?_) (fun hs => ?_) | refine WLPV_splitN (fun hs => ?_) (fun hs => ?_) | refine WLPC_splitN (fun hs => ?_) (fun hs => ?_) | refine WLPV_split (fun hs => ?_) (fun hs => ?_) | refine WLPC_split (fun hs => ?_) (fun hs => ?_) | refine WLV_split (fun hs => ?_) (fun hs => ?_) | refine WLC_split (fun hs => ?_) (fun hs => ?_) | refine WLB_split (fun hs => ?_) (fun hs => ?_)))
  all_goals (try (have hs' := hs; simp at hs'))
  all_goals (try simp [*, -getElem?_pos, eq_item, fillA])
  all_goals (try (first | refine WLV_splitN (fun hs => ?_) (fun hs => ?_) | refine WLC_splitN (fun hs => ?_) (fun hs => ?_) | refine WLB_splitN (fun hs => ?_) (fun hs => ?_) | refine WLPV_splitN (fun hs => ?_) (fun hs => ?_) | refine WLPC_splitN (fun hs => ?_) (fun hs => ?_) | refine WLPV_split (fun hs => ?_) (fun hs => ?_) | refine WLPC_split (fun hs => ?_) (fun hs => ?_) | refine WLV_split (fun hs => ?_) (fun hs => ?_) | refine WLC_split (fun hs => ?_) (fun hs => ?_) | refine WLB_split (fun hs => ?_) (fun hs => ?_)))
  all_goals (try (have hs' := hs; simp at hs'))
  all_goals (try simp [*, -getElem?_pos, eq_item, fillA])
  all_goals (try (first | refine WLV_splitN (fun hs => ?_) (fun hs => ?_) | refine WLC_splitN (fun hs => ?_) (fun hs => ?_) | refine WLB_splitN (fun hs => ?_) (fun hs => ?_) | refine WLPV_splitN (fun hs => ?_) (fun hs => ?_) | refine WLPC_splitN (fun hs => ?_) (fun hs => ?_) | refine WLPV_split (fun hs => ?_) (fun hs => ?_) | refine WLPC_split (fun hs => ?_) (fun hs => ?_) | refine WLV_split (fun hs => ?_) (fun hs => ?_) | refine WLC_split (fun hs => ?_) (fun hs => ?_) | refine WLB_split (fun hs => ?_) (fun hs => ?_)))
  all_goals (try (have hs' := hs; simp at hs'))
  all_goals (try simp [*, -getElem?_pos, eq_item, fillA])
noncomputable abbrev garlandref06_has_F := has_F
end Go.Proofs.YtfifgiopdbdeoaaDoor.Lite
namespace Go.Proofs.YtfifgiopdbdeoaaDoor.Lite
open Go
attribute [local simp] WL_of WL_nil WL_blk WL_skip WL_label WL_exit WL_goto WL_seq WL_block WL_cond WL_reg WL_ret WJ_nil WJ_ex WJ_gt WJ_rt WJ_exb WJ_gtb WJ_rtb WLO_nil WLO_call WO_nw stepN WO_mv WO_pick WO_new WO_box WO_ld WO_ldn WO_st WO_off WO_ixa WO_ixs WO_fld WO_fldn WO_ixv WO_ixvn WO_ixb WO_bin WO_eqb WO_isn WO_eqs WO_not WO_conv WO_mkf WO_bld WO_bls WO_sla WO_sls WO_sl0 WO_len WO_app WO_mnx WO_ext WO_nilc wants_none wants_some wantv_b wantv_t WLV_true WLV_false WLC_false WLB_true WLB_false evX_t evX_c evXs_nil evXs_cons look_put look_putN look_cons look_arg0 look_arg stepK binOpA intOp strOp evRes oneOf outs gc toDV AV.dat? I Bo av_s List.map List.append_nil getO putO AV.cellsOf bne WL_dreg WLP_nil WLP_call WP_mv WP_pick WP_new WP_box WP_ld WP_ldn WP_off WP_ixa WP_ixs WP_fld WP_fldn WP_ixv WP_ixvn WP_ixb WP_bin WP_eqb WP_isn WP_eqs WP_not WP_conv WP_mkf WP_bld WP_bls WP_sla WP_sls WP_sl0 WP_len WP_app WP_mnx WP_ext WP_nilc WLPV_true WLPV_false WLPC_false WLC_tells WLPC_tells padH onNm onEx List.getElem?_cons_zero List.getElem?_cons_succ List.getElem?_nil restrict AV.lows lay AV.isCell lowObj AObj.lows WJ_nm AV.lows.go WL_scope onGt_rt onGt_nm onGt_ex WL_sreg WP_st preSt eraseB List.set_cons_zero List.set_cons_succ frz cutR cutAs cutA WL_sregT cutB cutBs

def MW.empty (m : MW) : MW := ⟨m.kind, m.call, m.src, m.dest, 0, false, false, 0, 0, [], [], 0, 0, false, 0, by decide⟩
def MW.guard (m : MW) : Bool := decide (1 ≤ m.kind) && decide (m.kind < 13) && isPlace m.src && isPlace m.dest && !(m.src == m.dest)
def MW.calls (m : MW) : Bool := decide (m.asker * 1048576 + 1 ≤ m.call) && decide (m.call < m.asker * 1048576 + 1 + 1048576)
def MW.right (m : MW) : Bool := m.guard && m.calls && m.bare.same m.empty && m.has
instance (xs : List AV) (m : MW) [h : AsM xs m] : Tells asker_F [.agg xs] (.d (.int .i64 m.asker)) := ⟨[Mg m], [I m.asker], fun hp => by simp only [toDVs, asM_to h], orcM m, rfl, MW.flat_or m xs h, fun N M => by simp [AV.lows, h.l]⟩
noncomputable def mright_F := orcOf (fun m : MW => [Mg m]) (fun m => m.call < 9223372036854775808) (fun m => [Bo m.right])
theorem orcMc {out : MW → List DV} {m : MW} (hm : m.call < 9223372036854775808) : orcOf (fun m : MW => [Mg m]) (fun m => m.call < 9223372036854775808) out [Mg m] = some (out m) :=
  orcOf_eq (enc := fun m : MW => [Mg m]) (x := m) hm (fun y h => by
    simp only [Mg, List.cons.injEq, DV.g.injEq, and_true] at h
    exact MW.inj h)
instance (xs : List AV) (m : MW) [h : AsM xs m] [hm : Fact (m.call < 9223372036854775808)] : Tells mright_F [.agg xs] (.d (.bool m.right)) := ⟨[Mg m], [Bo m.right], fun hp => by simp only [toDVs, asM_to h], orcMc hm.out, rfl, MW.flat_or m xs h, fun N M => by simp [AV.lows, h.l]⟩
theorem asker_lo {m : MW} (h1 : isPlace m.src = true) (h2 : isPlace m.dest = true) : 0 ≤ m.asker ∧ m.asker < 65536 := by
  simp [isPlace] at h1 h2
  unfold MW.asker
  cases m.asks <;> simp <;> omega
noncomputable def TRM : Tbl := tbl [(52, garlandref06_place_F), (53, garlandref06_Asker_F), (54, garlandref06_bare_F), (42, garlandref06_Same_F), (55, garlandref06_has_F)]
theorem TRM_ok : TblOK Tryd.prog TRM := tbl_ok (by
  simp only [List.mem_cons, List.not_mem_nil, or_false]
  rintro p (rfl | rfl | rfl | rfl | rfl)
  · exact garlandref06_place
  · exact garlandref06_Asker
  · exact garlandref06_bare
  · exact garlandref06_Same
  · exact garlandref06_has)
instance : Has TRM 52 garlandref06_place_F := ⟨rfl⟩
instance : Has TRM 53 garlandref06_Asker_F := ⟨rfl⟩
instance : Has TRM 54 garlandref06_bare_F := ⟨rfl⟩
instance : Has TRM 42 garlandref06_Same_F := ⟨rfl⟩
instance : Has TRM 55 garlandref06_has_F := ⟨rfl⟩

theorem garlandref06_Right : Pure Tryd.prog 25 mright_F := by
  refine con TRM_ok rfl rfl fun m hm => ⟨rfl, ?_⟩
  have hw1 : isPlace m.src = true → isPlace m.dest = true → IntKind.i64.wrap (m.asker * 1048576) = m.asker * 1048576 := fun h1 h2 => by
    have := asker_lo h1 h2; rw [wrap64]; split <;> omega
  have hw2 : isPlace m.src = true → isPlace m.dest = true → IntKind.i64.wrap (m.asker * 1048576 + 1) = m.asker * 1048576 + 1 := fun h1 h2 => by
    have := asker_lo h1 h2; rw [wrap64]; split <;> omega
  have hw3 : isPlace m.src = true → isPlace m.dest = true → IntKind.i64.wrap (m.asker * 1048576 + 1 + 1048576) = m.asker * 1048576 + 1 + 1048576 := fun h1 h2 => by
    have := asker_lo h1 h2; rw [wrap64]; split <;> omega
  simp [cf25, Mg_av, -getElem?_pos, mcs_0, mcs_1, mcs_2, mcs_3, mcs_len, mcs_take, mcs_all, mcs_lows, fillA]
  all_goals (try (first | refine WLV_splitN (fun hs => ?_) (fun hs => ?_) | refine WLC_splitN (fun hs => ?_) (fun hs => ?_) | refine WLB_splitN (fun hs => ?_) (fun hs => ?_) | refine WLPV_splitN (fun hs => ?_) (fun hs => ?_) | refine WLPC_splitN (fun hs => ?_) (fun hs => ?_) | refine WLPV_split (fun hs => ?_) (fun hs => ?_) | refine WLPC_split (fun hs => ?_) (fun hs => ?_) | refine WLV_split (fun hs => ?_) (fun hs => ?_) | refine WLC_split (fun hs => ?_) (fun hs => ?_) | refine WLB_split (fun hs => ?_) (fun hs => ?_)))
  all_goals (try (have hs' := hs; simp at hs'))
  all_goals (try simp [*, -getElem?_pos, mcs_0, mcs_1, mcs_2, mcs_3, mcs_len, mcs_take, mcs_all, mcs_lows, fillA])
  all_goals (try (first | refine WLV_splitN (fun hs => ?_) (fun hs => ?_) | refine WLC_splitN (fun hs => ?_) (fun hs => ?_) | refine WLB_splitN (fun hs => ?_) (fun hs => ?_) | refine WLPV_splitN (fun hs => ?_) (fun hs => ?_) | refine WLPC_splitN (fun hs => ?_) (fun hs => ?_) | refine WLPV_split (fun hs => ?_) (fun hs => ?_) | refine WLPC_split (fun hs => ?_) (fun hs => ?_) | refine WLV_split (fun hs => ?_) (fun hs => ?_) | refine WLC_split (fun hs => ?_) (fun hs => ?_) | refine WLB_split (fun hs => ?_) (fun hs => ?_)))
  all_goals (try (have hs' := hs; simp at hs'))
  all_goals (try simp [*, -getElem?_pos, mcs_0, mcs_1, mcs_2, mcs_3, mcs_len, mcs_take, mcs_all, mcs_lows, fillA])
  all_goals (try (first | refine WLV_splitN (fun hs => ?_) (fun hs => ?_) | refine WLC_splitN (fun hs => ?_) (fun hs => ?_) | refine WLB_splitN (fun hs => ?_) (fun hs => ?_) | refine WLPV_splitN (fun hs => ?_) (fun hs => ?_) | refine WLPC_splitN (fun hs => ?_) (fun hs => ?_) | refine WLPV_split (fun hs => ?_) (fun hs => ?_) | refine WLPC_split (fun hs => ?_) (fun hs => ?_) | refine WLV_split (fun hs => ?_) (fun hs => ?_) | refine WLC_split (fun hs => ?_) (fun hs => ?_) | refine WLB_split (fun hs => ?_) (fun hs => ?_)))
  all_goals (try (have hs' := hs; simp at hs'))
  all_goals (try simp [*, -getElem?_pos, mcs_0, mcs_1, mcs_2, mcs_3, mcs_len, mcs_take, mcs_all, mcs_lows, fillA])
  all_goals (try (first | refine WLV_splitN (fun hs => ?_) (fun hs => ?_) | refine WLC_splitN (fun hs => ?_) (fun hs => ?_) | refine WLB_splitN (fun hs => ?_) (fun hs => ?_) | refine WLPV_splitN (fun hs => ?_) (fun hs => ?_) | refine WLPC_splitN (fun hs => ?_) (fun hs => ?_) | refine WLPV_split (fun hs => ?_) (fun hs => ?_) | refine WLPC_split (fun hs => ?_) (fun hs => ?_) | refine WLV_split (fun hs => ?_) (fun hs => ?_) | refine WLC_split (fun hs => ?_) (fun hs => ?_) | refine WLB_split (fun hs => ?_) (fun hs => ?_)))
  all_goals (try (have hs' := hs; simp at hs'))
  all_goals (try simp [*, -getElem?_pos, mcs_0, mcs_1, mcs_2, mcs_3, mcs_len, mcs_take, mcs_all, mcs_lows, fillA])
  all_goals (try (first | refine WLV_splitN (fun hs => ?_) (fun hs => ?_) | refine WLC_splitN (fun hs => ?_) (fun hs => ?_) | refine WLB_splitN (fun hs => ?_) (fun hs => ?_) | refine WLPV_splitN (fun hs => ?_) (fun hs => ?_) | refine WLPC_splitN (fun hs => ?_) (fun hs => ?_) | refine WLPV_split (fun hs => ?_) (fun hs => ?_) | refine WLPC_split (fun hs => ?_) (fun hs => ?_) | refine WLV_split (fun hs => ?_) (fun hs => ?_) | refine WLC_split (fun hs => ?_) (fun hs => ?_) | refine WLB_split (fun hs => ?_) (fun hs => ?_)))
  all_goals (try (have hs' := hs; simp at hs'))
  all_goals (try simp [*, -getElem?_pos, mcs_0, mcs_1, mcs_2, mcs_3, mcs_len, mcs_take, mcs_all, mcs_lows, fillA])
  all_goals (try (first | refine WLV_splitN (fun hs => ?_) (fun hs => ?_) | refine WLC_splitN (fun hs => ?_) (fun hs => ?_) | refine WLB_splitN (fun hs => ?_) (fun hs => ?_) | refine WLPV_splitN (fun hs => ?_) (fun hs => ?_) | refine WLPC_splitN (fun hs => ?_) (fun hs => ?_) | refine WLPV_split (fun hs => ?_) (fun hs => ?_) | refine WLPC_split (fun hs => ?_) (fun hs => ?_) | refine WLV_split (fun hs => ?_) (fun hs => ?_) | refine WLC_split (fun hs => ?_) (fun hs => ?_) | refine WLB_split (fun hs => ?_) (fun hs => ?_)))
  all_goals (try (have hs' := hs; simp at hs'))
  all_goals (try simp [*, -getElem?_pos, mcs_0, mcs_1, mcs_2, mcs_3, mcs_len, mcs_take, mcs_all, mcs_lows, fillA])
  all_goals (try (first | refine WLV_splitN (fun hs => ?_) (fun hs => ?_) | refine WLC_splitN (fun hs => ?_) (fun hs => ?_) | refine WLB_splitN (fun hs => ?_) (fun hs => ?_) | refine WLPV_splitN (fun hs => ?_) (fun hs => ?_) | refine WLPC_splitN (fun hs => ?_) (fun hs => ?_) | refine WLPV_split (fun hs => ?_) (fun hs => ?_) | refine WLPC_split (fun hs => ?_) (fun hs => ?_) | refine WLV_split (fun hs => ?_) (fun hs => ?_) | refine WLC_split (fun hs => ?_) (fun hs => ?_) | refine WLB_split (fun hs => ?_) (fun hs => ?_)))
  all_goals (try (have hs' := hs; simp at hs'))
  all_goals (try simp [*, -getElem?_pos, mcs_0, mcs_1, mcs_2, mcs_3, mcs_len, mcs_take, mcs_all, mcs_lows, fillA])
  all_goals (try (first | refine WLV_splitN (fun hs => ?_) (fun hs => ?_) | refine WLC_splitN (fun hs => ?_) (fun hs => ?_) | refine WLB_splitN (fun hs => ?_) (fun hs => ?_) | refine WLPV_splitN (fun hs => ?_) (fun hs => ?_) | refine WLPC_splitN (fun hs => ?_) (fun hs => ?_) | refine WLPV_split (fun hs => ?_) (fun hs => ?_) | refine WLPC_split (fun hs => ?_) (fun hs => ?_) | refine WLV_split (fun hs => ?_) (fun hs => ?_) | refine WLC_split (fun hs => ?_) (fun hs => ?_) | refine WLB_split (fun hs => ?_) (fun hs => ?_)))
  all_goals (try (have hs' := hs; simp at hs'))
  all_goals (try simp [*, -getElem?_pos, mcs_0, mcs_1, mcs_2, mcs_3, mcs_len, mcs_take, mcs_all, mcs_lows, fillA])
  all_goals first
    | (simp [MW.right, MW.guard, MW.calls, MW.empty, *]; done)
    | (have h3 : m.right = false := (by unfold MW.right MW.guard MW.calls; simp; omega); exact h3)

noncomputable abbrev garlandref06_Right_F := mright_F

def MW.off (m : MW) : MW := if m.kind = 6 then { m with ikey := [] } else m.bare
theorem off_right {m : MW} : (m.fine && m.off.same m.empty) = (m.bare.same m.empty && m.has) := by
  obtain ⟨kind, call, src, dest, key, slow, fin, place, pred, lst, ikey, ival, iver, gone, code, hl⟩ := m
  by_cases h : kind = 6
  · subst h
    simp only [MW.off, MW.bare, MW.has, MW.fine, MW.same, MW.empty, MW.it, IW.pair, if_true]
    simp
    cases h1 : ival == 0 with
    | false => simp at h1; simp [h1]
    | true =>
      cases h2 : iver == 0 with
      | false => simp at h2; simp [h2]
      | true =>
        simp at h1 h2; subst h1 h2
        cases gone <;> cases key == 0 <;> cases slow <;> cases fin <;> cases place == 0 <;> cases pred == 0 <;> cases keyB ikey <;> cases code == 0 <;> simp [within]
  · have h1 : MW.off ⟨kind, call, src, dest, key, slow, fin, place, pred, lst, ikey, ival, iver, gone, code, hl⟩ = MW.bare ⟨kind, call, src, dest, key, slow, fin, place, pred, lst, ikey, ival, iver, gone, code, hl⟩ := by simp [MW.off, h]
    have h2 : MW.has ⟨kind, call, src, dest, key, slow, fin, place, pred, lst, ikey, ival, iver, gone, code, hl⟩ = MW.fine ⟨kind, call, src, dest, key, slow, fin, place, pred, lst, ikey, ival, iver, gone, code, hl⟩ := by simp [MW.has, h]
    rw [h1, h2, Bool.and_comm]
theorem call_quo {m : MW} (h1 : isPlace m.src = true) (h2 : isPlace m.dest = true) (hc : 1 ≤ m.call) : (Int.tdiv (m.call - 1) 1048576 == m.asker) = m.calls := by
  have := asker_lo h1 h2
  rw [Int.tdiv_eq_ediv_of_nonneg (by omega)]
  unfold MW.calls
  rw [Bool.eq_iff_iff]
  simp
  omega
theorem right_off (m : MW) : m.right = (m.guard && m.calls && (m.fine && m.off.same m.empty)) := by
  unfold MW.right; rw [off_right, Bool.and_assoc (m.guard && m.calls)]
theorem calls_lo {m : MW} (h1 : isPlace m.src = true) (h2 : isPlace m.dest = true) (hc : m.call < 1) : m.calls = false := by
  have := asker_lo h1 h2
  unfold MW.calls; simp; omega
noncomputable def TMR : Tbl := tbl [(84, msg_place_F), (85, msg_Asker_F), (86, msg_fine_F), (88, msg_Same_F)]
theorem TMR_ok : TblOK Tryd.prog TMR := tbl_ok (by
  simp only [List.mem_cons, List.not_mem_nil, or_false]
  rintro p (rfl | rfl | rfl | rfl)
  · exact msg_place
  · exact msg_Asker
  · exact msg_fine
  · exact msg_Same)
instance : Has TMR 84 msg_place_F := ⟨rfl⟩
instance : Has TMR 85 msg_Asker_F := ⟨rfl⟩
instance : Has TMR 86 msg_fine_F := ⟨rfl⟩
instance : Has TMR 88 msg_Same_F := ⟨rfl⟩

theorem msg_Right : Pure Tryd.prog 44 mright_F := by
  refine con TMR_ok rfl rfl fun m hm => ⟨rfl, ?_⟩
  have hq : isPlace m.src = true → isPlace m.dest = true → decide (m.call < 1) = false → (Int.tdiv (m.call - 1) 1048576 == m.asker) = m.calls := fun h1 h2 h3 => call_quo h1 h2 (by simpa using h3)
  have hw1 : decide (m.call < 1) = false → IntKind.i64.wrap (m.call - 1) = m.call - 1 := fun h => by
    simp at h; rw [wrap64]; split <;> omega
  have hw2 : isPlace m.src = true → isPlace m.dest = true → decide (m.call < 1) = false → IntKind.i64.wrap (Int.tdiv (m.call - 1) 1048576) = Int.tdiv (m.call - 1) 1048576 := fun h1 h2 h => by
    simp at h
    rw [Int.tdiv_eq_ediv_of_nonneg (by omega), wrap64]; split <;> omega
  simp [cf44, Mg_av, -getElem?_pos, mcs_0, mcs_1, mcs_2, mcs_3, mcs_len, mcs_take, mcs_all, mcs_lows, fillA]
  all_goals (try (first | refine WLV_splitN (fun hs => ?_) (fun hs => ?_) | refine WLC_splitN (fun hs => ?_) (fun hs => ?_) | refine WLB_splitN (fun hs => ?_) (fun hs => ?_) | refine WLPV_splitN (fun hs => ?_) (fun hs => ?_) | refine WLPC_splitN (fun hs => ?_) (fun hs => ?_) | refine WLPV_split (fun hs => ?_) (fun hs => ?_) | refine WLPC_split (fun hs => ?_) (fun hs => ?_) | refine WLV_split (fun hs => ?_) (fun hs => ?_) | refine WLC_split (fun hs => ?_) (fun hs => ?_) | refine WLB_split (fun hs => ?_) (fun hs => ?_)))
  all_goals (try (have hs' := hs; simp at hs'))
  all_goals (try simp [*, -getElem?_pos, mcs_0, mcs_1, mcs_2, mcs_3, mcs_len, mcs_take, mcs_all, mcs_lows, fillA])
  all_goals (try (first | refine WLV_splitN (fun hs => ?_) (fun hs => ?_) | refine WLC_splitN (fun hs => ?_) (fun hs => ?_) | refine WLB_splitN (fun hs => ?_) (fun hs => ?_) | refine WLPV_splitN (fun hs => ?_) (fun hs => ?_) | refine WLPC_splitN (fun hs => ?_) (fun hs => ?_) | refine WLPV_split (fun hs => ?_) (fun hs => ?_) | refine WLPC_split (fun hs => ?_) (fun hs => ?_) | refine WLV_split (fun hs => ?_) (fun hs => ?_) | refine WLC_split (fun hs => ?_) (fun hs => ?_) | refine WLB_split (fun hs => ?_) (fun hs => ?_)))
  all_goals (try (have hs' := hs; simp at hs'))
  all_goals (try simp [*, -getElem?_pos, mcs_0, mcs_1, mcs_2, mcs_3, mcs_len, mcs_take, mcs_all, mcs_lows, fillA])
  all_goals (try (first | refine WLV_splitN (fun hs => ?_) (fun hs => ?_) | refine WLC_splitN (fun hs => ?_) (fun hs => ?_) | refine WLB_splitN (fun hs => ?_) (fun hs => ?_) | refine WLPV_splitN (fun hs => ?_) (fun hs => ?_) | refine WLPC_splitN (fun hs => ?_) (fun hs => ?_) | refine WLPV_split (fun hs => ?_) (fun hs => ?_) | refine WLPC_split (fun hs => ?_) (fun hs => ?_) | refine WLV_split (fun hs => ?_) (fun hs => ?_) | refine WLC_split (fun hs => ?_) (fun hs => ?_) | refine WLB_split (fun hs => ?_) (fun hs => ?_)))
  all_goals (try (have hs' := hs; simp at hs'))
  all_goals (try simp [*, -getElem?_pos, mcs_0, mcs_1, mcs_2, mcs_3, mcs_len, mcs_take, mcs_all, mcs_lows, fillA])
  all_goals (try (first | refine WLV_splitN (fun hs => ?_) (fun hs => ?_) | refine WLC_splitN (fun hs => ?_) (fun hs => ?_) | refine WLB_splitN (fun hs => ?_) (fun hs => ?_) | refine WLPV_splitN (fun hs => ?_) (fun hs => ?_) | refine WLPC_splitN (fun hs => ?_) (fun hs => ?_) | refine WLPV_split (fun hs => ?_) (fun hs => ?_) | refine WLPC_split (fun hs => ?_) (fun hs => ?_) | refine WLV_split (fun hs => ?_) (fun hs => ?_) | refine WLC_split (fun hs => ?_) (fun hs => ?_) | refine WLB_split (fun hs => ?_) (fun hs => ?_)))
  all_goals (try (have hs' := hs; simp at hs'))
  all_goals (try simp [*, -getElem?_pos, mcs_0, mcs_1, mcs_2, mcs_3, mcs_len, mcs_take, mcs_all, mcs_lows, fillA])
  all_goals (try (first | refine WLV_splitN (fun hs => ?_) (fun hs => ?_) | refine WLC_splitN (fun hs => ?_) (fun hs => ?_) | refine WLB_splitN (fun hs => ?_) (fun hs => ?_) | refine WLPV_splitN (fun hs => ?_) (fun hs => ?_) | refine WLPC_splitN (fun hs => ?_) (fun hs => ?_) | refine WLPV_split (fun hs => ?_) (fun hs => ?_) | refine WLPC_split (fun hs => ?_) (fun hs => ?_) | refine WLV_split (fun hs => ?_) (fun hs => ?_) | refine WLC_split (fun hs => ?_) (fun hs => ?_) | refine WLB_split (fun hs => ?_) (fun hs => ?_)))
  all_goals (try (have hs' := hs; simp at hs'))
  all_goals (try simp [*, -getElem?_pos, mcs_0, mcs_1, mcs_2, mcs_3, mcs_len, mcs_take, mcs_all, mcs_lows, fillA])
  all_goals try (
    refine onGt_go (rest := .seq .skip (.seq (.reg (⟨some 2, .mv (.c (.d (.bool false))), none⟩ :: [])) .ret)) rfl ?_
    simp [-getElem?_pos, mcs_all]
    first | (simp [MW.right, MW.guard, *]; done) | (have h3 : m.right = false := (by unfold MW.right MW.guard; simp; omega); exact h3))
  all_goals (try (first | refine WLV_splitN (fun hs => ?_) (fun hs => ?_) | refine WLC_splitN (fun hs => ?_) (fun hs => ?_) | refine WLB_splitN (fun hs => ?_) (fun hs => ?_) | refine WLPV_splitN (fun hs => ?_) (fun hs => ?_) | refine WLPC_splitN (fun hs => ?_) (fun hs => ?_) | refine WLPV_split (fun hs => ?_) (fun hs => ?_) | refine WLPC_split (fun hs => ?_) (fun hs => ?_) | refine WLV_split (fun hs => ?_) (fun hs => ?_) | refine WLC_split (fun hs => ?_) (fun hs => ?_) | refine WLB_split (fun hs => ?_) (fun hs => ?_)))
  all_goals (try (have hs' := hs; simp at hs'))
  all_goals (try simp [*, -getElem?_pos, mcs_0, mcs_1, mcs_2, mcs_3, mcs_len, mcs_take, mcs_all, mcs_lows, fillA])
  all_goals (try (first | refine WLV_splitN (fun hs => ?_) (fun hs => ?_) | refine WLC_splitN (fun hs => ?_) (fun hs => ?_) | refine WLB_splitN (fun hs => ?_) (fun hs => ?_) | refine WLPV_splitN (fun hs => ?_) (fun hs => ?_) | refine WLPC_splitN (fun hs => ?_) (fun hs => ?_) | refine WLPV_split (fun hs => ?_) (fun hs => ?_) | refine WLPC_split (fun hs => ?_) (fun hs => ?_) | refine WLV_split (fun hs => ?_) (fun hs => ?_) | refine WLC_split (fun hs => ?_) (fun hs => ?_) | refine WLB_split (fun hs => ?_) (fun hs => ?_)))
  all_goals (try (have hs' := hs; simp at hs'))
  all_goals (try simp [*, -getElem?_pos, mcs_0, mcs_1, mcs_2, mcs_3, mcs_len, mcs_take, mcs_all, mcs_lows, fillA])
  all_goals (try (first | refine WLV_splitN (fun hs => ?_) (fun hs => ?_) | refine WLC_splitN (fun hs => ?_) (fun hs => ?_) | refine WLB_splitN (fun hs => ?_) (fun hs => ?_) | refine WLPV_splitN (fun hs => ?_) (fun hs => ?_) | refine WLPC_splitN (fun hs => ?_) (fun hs => ?_) | refine WLPV_split (fun hs => ?_) (fun hs => ?_) | refine WLPC_split (fun hs => ?_) (fun hs => ?_) | refine WLV_split (fun hs => ?_) (fun hs => ?_) | refine WLC_split (fun hs => ?_) (fun hs => ?_) | refine WLB_split (fun hs => ?_) (fun hs => ?_)))
  all_goals (try (have hs' := hs; simp at hs'))
  all_goals (try simp [*, -getElem?_pos, mcs_0, mcs_1, mcs_2, mcs_3, mcs_len, mcs_take, mcs_all, mcs_lows, fillA])
  all_goals try (
    refine onGt_go (rest := .seq .skip (.seq (.reg (⟨some 2, .mv (.c (.d (.bool false))), none⟩ :: [])) .ret)) rfl ?_
    simp [-getElem?_pos, mcs_all]
    first | (simp [right_off, *]; done) | (have h3 := calls_lo (by assumption) (by assumption) hs'; simp [right_off, h3]))
  have hfin : m.right = m.off.same m.empty := by
    rw [right_off]
    have hg : m.guard = true := by unfold MW.guard; simp [*]
    simp [*]
  rw [hfin]
  clear hfin hw1 hw2 hq
  obtain ⟨kind, call, src, dest, key, slow, fin, place, pred, lst, ikey, ival, iver, gone, code, hl⟩ := m
  haveI : Fact (lst.length < 9223372036854775808) := ⟨hl⟩
  rcases kinds kind with h | h | h | h | h | h | h | ⟨h1, h2, h3, h4, h5, h6, h7⟩
  all_goals (try subst h)
  all_goals (try have e1 := beq_eq_false_iff_ne.2 h1)
  all_goals (try have e2 := beq_eq_false_iff_ne.2 h2)
  all_goals (try have e3 := beq_eq_false_iff_ne.2 h3)
  all_goals (try have e4 := beq_eq_false_iff_ne.2 h4)
  all_goals (try have e5 := beq_eq_false_iff_ne.2 h5)
  all_goals (try have e6 := beq_eq_false_iff_ne.2 h6)
  all_goals (try have e7 := beq_eq_false_iff_ne.2 h7)
  all_goals (
    refine WLC_fn (cf := cf87) rfl rfl rfl ?_
    simp [cf87, afterC, -getElem?_pos, MW.cs, MW.off, MW.bare, MW.empty, fillA, *])
noncomputable abbrev msg_Right_F := mright_F
end Go.Proofs.YtfifgiopdbdeoaaDoor.Lite
namespace Go.Proofs.YtfifgiopdbdeoaaDoor.Lite
open Go
attribute [local simp] WL_of WL_nil WL_blk WL_skip WL_label WL_exit WL_goto WL_seq WL_block WL_cond WL_reg WL_ret WJ_nil WJ_ex WJ_gt WJ_rt WJ_exb WJ_gtb WJ_rtb WLO_nil WLO_call WO_nw stepN WO_mv WO_pick WO_new WO_box WO_ld WO_ldn WO_st WO_off WO_ixa WO_ixs WO_fld WO_fldn WO_ixv WO_ixvn WO_ixb WO_bin WO_eqb WO_isn WO_eqs WO_not WO_conv WO_mkf WO_bld WO_bls WO_sla WO_sls WO_sl0 WO_len WO_app WO_mnx WO_ext WO_nilc wants_none wants_some wantv_b wantv_t WLV_true WLV_false WLC_false WLB_true WLB_false evX_t evX_c evXs_nil evXs_cons look_put look_putN look_cons look_arg0 look_arg stepK binOpA intOp strOp evRes oneOf outs gc toDV AV.dat? I Bo av_s List.map List.append_nil getO putO AV.cellsOf bne WL_dreg WLP_nil WLP_call WP_mv WP_pick WP_new WP_box WP_ld WP_ldn WP_off WP_ixa WP_ixs WP_fld WP_fldn WP_ixv WP_ixvn WP_ixb WP_bin WP_eqb WP_isn WP_eqs WP_not WP_conv WP_mkf WP_bld WP_bls WP_sla WP_sls WP_sl0 WP_len WP_app WP_mnx WP_ext WP_nilc WLPV_true WLPV_false WLPC_false WLC_tells WLPC_tells padH onNm onEx List.getElem?_cons_zero List.getElem?_cons_succ List.getElem?_nil restrict AV.lows lay AV.isCell lowObj AObj.lows WJ_nm AV.lows.go WL_scope onGt_rt onGt_nm onGt_ex WL_sreg WP_st preSt eraseB List.set_cons_zero List.set_cons_succ frz cutR cutAs cutA WL_sregT cutB cutBs

noncomputable def clone_F := orcOf (fun l : List Int => [SI l]) (fun l => l.length ≤ 4294967296) (fun l => [SI l])
theorem flatC_rowsI (l : List Int) : flatC (rowsI l) = l.map fun n => .d (.int .i64 n) := by
  induction l with
  | nil => rfl
  | cons a l ih =>
    simp only [flatC, rowsI, List.map_cons, List.flatten_cons, List.map_append, List.map_nil, List.cons_append, List.nil_append] at ih ⊢
    rw [ih]
theorem flatC_len1 (l : List Int) : (flatC (rowsI l)).length = l.length := by rw [flatC_rowsI]; simp
theorem dats_flatC (l : List Int) : dats? (flatC (rowsI l)) = some (l.map (.int .i64)) := by
  rw [flatC_rowsI]
  induction l with
  | nil => rfl
  | cons a l ih => simp only [List.map_cons, dats?, AV.dat?, ih]
theorem chunk_rowsI (l : List Int) : chunk 1 l.length (l.map (.int .i64)) = rowsI l := by
  induction l with
  | nil => rfl
  | cons a l ih =>
    simp only [List.length_cons, chunk, List.map_cons, List.take_succ_cons, List.take_zero, List.drop_succ_cons, List.drop_zero, ih]
    rfl
theorem slices_Clone : Pure Tryd.prog 83 clone_F := by
  refine pure_of (T := tbl []) (cf := cf83) (tbl_ok (by simp)) rfl rfl fun dvs rs hF => ?_
  obtain ⟨l, hl, rfl, rfl⟩ := orcOf_inv hF
  cases l with
  | nil =>
    refine WC_ref (cf := cf83) rfl rfl rfl rfl ?_ ?_ ?_
    · rw [WC_code' (cf := cf83) rfl rfl refine_emp]
      refine ⟨rfl, ?_⟩
      simp [cf83, -getElem?_pos]
    · rw [WC_code' (cf := cf83) rfl rfl refine_emp]
      refine ⟨rfl, ?_⟩
      simp [cf83, -getElem?_pos, rows?]
    · simp [-getElem?_pos, SI, rowsI]
  | cons a l =>
    have hrl : l.length + 1 ≤ LIM := by unfold LIM; simp at hl; omega
    have hdc := dats_flatC (a :: l)
    have hck := chunk_rowsI (a :: l)
    have hfl := flatC_len1 (a :: l)
    have hrok := rowsI_ok (a :: l)
    have hln := rowsI_length (a :: l)
    obtain ⟨r0, rs, hrx⟩ : ∃ r0 rs, rowsI (a :: l) = r0 :: rs := ⟨_, _, rfl⟩
    rw [WC_code' (cf := cf83) rfl rfl rfl]
    refine ⟨rfl, ?_⟩
    simp only [SI, List.map_cons, List.map_nil, DV.av]
    rw [hrx] at hdc hck hfl hrok hln ⊢
    simp only [List.length_cons, List.map_cons] at hck hdc
    simp at hln hfl
    simp [cf83, -getElem?_pos, rows?, hrok, hrl, hdc, hck, hfl, hln]
    try (rw [List.take_of_length_le (by omega)]; simp [hdc, hck])
noncomputable abbrev slices_Clone_F := clone_F
end Go.Proofs.YtfifgiopdbdeoaaDoor.Lite
namespace Go.Proofs.YtfifgiopdbdeoaaDoor.Lite
open Go
attribute [local simp] WL_of WL_nil WL_blk WL_skip WL_label WL_exit WL_goto WL_seq WL_block WL_cond WL_reg WL_ret WJ_nil WJ_ex WJ_gt WJ_rt WJ_exb WJ_gtb WJ_rtb WLO_nil WLO_call WO_nw stepN WO_mv WO_pick WO_new WO_box WO_ld WO_ldn WO_st WO_off WO_ixa WO_ixs WO_fld WO_fldn WO_ixv WO_ixvn WO_ixb WO_bin WO_eqb WO_isn WO_eqs WO_not WO_conv WO_mkf WO_bld WO_bls WO_sla WO_sls WO_sl0 WO_len WO_app WO_mnx WO_ext WO_nilc wants_none wants_some wantv_b wantv_t WLV_true WLV_false WLC_false WLB_true WLB_false evX_t evX_c evXs_nil evXs_cons look_put look_putN look_cons look_arg0 look_arg stepK binOpA intOp strOp evRes oneOf outs gc toDV AV.dat? I Bo av_s List.map List.append_nil getO putO AV.cellsOf bne WL_dreg WLP_nil WLP_call WP_mv WP_pick WP_new WP_box WP_ld WP_ldn WP_off WP_ixa WP_ixs WP_fld WP_fldn WP_ixv WP_ixvn WP_ixb WP_bin WP_eqb WP_isn WP_eqs WP_not WP_conv WP_mkf WP_bld WP_bls WP_sla WP_sls WP_sl0 WP_len WP_app WP_mnx WP_ext WP_nilc WLPV_true WLPV_false WLPC_false WLC_tells WLPC_tells padH onNm onEx List.getElem?_cons_zero List.getElem?_cons_succ List.getElem?_nil restrict AV.lows lay AV.isCell lowObj AObj.lows WJ_nm AV.lows.go WL_scope onGt_rt onGt_nm onGt_ex WL_sreg WP_st preSt eraseB List.set_cons_zero List.set_cons_succ frz cutR cutAs cutA WL_sregT cutB cutBs

instance (l : List Int) [h : Fact (l.length ≤ 4294967296)] : Tells clone_F [.d (.sl (rowsI l))] (.d (.sl (rowsI l))) :=
  ⟨[SI l], [SI l], fun _ => rfl, orcOf_eq (enc := fun l => [SI l]) h.out (fun y hy => by simp only [SI, List.cons.injEq, DV.s.injEq, Dat.sl.injEq, and_true] at hy; exact rowsI_inj hy), rfl, rfl, fun _ _ => rfl⟩
theorem cs_lay1 (v : VW) : v.cs.take 1 ++ vsI v.base :: v.cs.drop 2 = v.cs := rfl
theorem cs_lay2 (v : VW) : v.cs.take 2 ++ vsI v.lst :: v.cs.drop 3 = v.cs := rfl
def VW.small (v : VW) : Prop := v.base.length ≤ 4294967296 ∧ v.lst.length ≤ 4294967296
noncomputable def own_F := orcOf (fun v : VW => [V v]) VW.small (fun v => [V v])
theorem isCell_ints : ∀ l : List Int, (l.map fun n => AV.d (.int .i64 n)).all AV.isCell = true
  | [] => rfl
  | n :: l => by simp [AV.isCell, isCell_ints l]
theorem cs_cell (v : VW) : v.cs.all AV.isCell = true := by simp [VW.cs, AV.isCell]
theorem cs_cell2 (v : VW) : ∀ (x : AV), x ∈ v.cs → AV.isCell x = true := fun x hx => List.all_eq_true.1 (cs_cell v) x hx
theorem isCell_d (x : Dat) : AV.isCell (.d x) = true := rfl
theorem isCell_ws (r : List (List Dat)) (t : Nat) : AV.isCell (.ws r t) = true := rfl
theorem cs_lay0 {v : VW} {l : List AV} (h : l.length = 20) : l.take 0 ++ v.cs ++ l.drop (0 + 20) = v.cs := by
  rw [List.drop_eq_nil_of_le (by omega)]; simp
noncomputable def TOW : Tbl := tbl [(83, slices_Clone_F)]
theorem TOW_ok : TblOK Tryd.prog TOW := tbl_ok (by
  simp only [List.mem_cons, List.not_mem_nil, or_false]
  rintro p (rfl)
  · exact slices_Clone)
instance : Has TOW 83 slices_Clone_F := ⟨rfl⟩

theorem view_Own : Pure Tryd.prog 43 own_F := by
  refine con TOW_ok rfl rfl fun v hv => ⟨rfl, ?_⟩
  haveI : Fact (v.base.length ≤ 4294967296) := ⟨hv.1⟩
  haveI : Fact (v.lst.length ≤ 4294967296) := ⟨hv.2⟩
  have hl := cs_length v
  simp [cf43, V_av, -getElem?_pos, cs_1, cs_2, cs_length, cs_lay1, cs_lay2, cs_take, cs_all, cs_lows, cs_dats, if_pos (cs_cell2 v), -AV.isCell, isCell_d]
  try rfl
noncomputable abbrev view_Own_F := own_F

theorem rowsOk_nil (e : Nat) : rowsOk e [] = true := rfl
theorem garlandref13_Own : Pure Tryd.prog 28 own_F := by
  refine con (T := tbl []) (tbl_ok (by simp)) rfl rfl fun v hv => ⟨rfl, ?_⟩
  have h1 : v.base.length ≤ LIM := hv.1
  have h2 : v.lst.length ≤ LIM := hv.2
  have t16 : (v.fin.map fun n => AV.d (.int .i64 n)).take 16 = v.fin.map fun n => AV.d (.int .i64 n) := List.take_of_length_le (by simp [v.hf])
  have t17 : (v.fin.map fun n => AV.d (.int .i64 n)).drop 16 = [] := List.drop_eq_nil_of_le (by simp [v.hf])
  have hf := v.hf
  simp [cf28, V_av, -getElem?_pos, VW.cs, hf, t16, t17, rows?, rowsI_ok, rowsI_length, rowsOk_nil, stepK.getTok, fillA, dats?, chunk, h1, h2, -AV.isCell, isCell_d, isCell_ws, dats_ints, lows_ints]
  try rfl
noncomputable abbrev garlandref13_Own_F := own_F
end Go.Proofs.YtfifgiopdbdeoaaDoor.Lite
namespace Go.Proofs.YtfifgiopdbdeoaaDoor.Lite
open Go
attribute [local simp] WL_of WL_nil WL_blk WL_skip WL_label WL_exit WL_goto WL_seq WL_block WL_cond WL_reg WL_ret WJ_nil WJ_ex WJ_gt WJ_rt WJ_exb WJ_gtb WJ_rtb WLO_nil WLO_call WO_nw stepN WO_mv WO_pick WO_new WO_box WO_ld WO_ldn WO_st WO_off WO_ixa WO_ixs WO_fld WO_fldn WO_ixv WO_ixvn WO_ixb WO_bin WO_eqb WO_isn WO_eqs WO_not WO_conv WO_mkf WO_bld WO_bls WO_sla WO_sls WO_sl0 WO_len WO_app WO_mnx WO_ext WO_nilc wants_none wants_some wantv_b wantv_t WLV_true WLV_false WLC_false WLB_true WLB_false evX_t evX_c evXs_nil evXs_cons look_put look_putN look_cons look_arg0 look_arg stepK binOpA intOp strOp evRes oneOf outs gc toDV AV.dat? I Bo av_s List.map List.append_nil getO putO AV.cellsOf bne WL_dreg WLP_nil WLP_call WP_mv WP_pick WP_new WP_box WP_ld WP_ldn WP_off WP_ixa WP_ixs WP_fld WP_fldn WP_ixv WP_ixvn WP_ixb WP_bin WP_eqb WP_isn WP_eqs WP_not WP_conv WP_mkf WP_bld WP_bls WP_sla WP_sls WP_sl0 WP_len WP_app WP_mnx WP_ext WP_nilc WLPV_true WLPV_false WLPC_false WLC_tells WLPC_tells padH onNm onEx List.getElem?_cons_zero List.getElem?_cons_succ List.getElem?_nil restrict AV.lows lay AV.isCell lowObj AObj.lows WJ_nm AV.lows.go WL_scope onGt_rt onGt_nm onGt_ex WL_sreg WP_st preSt eraseB List.set_cons_zero List.set_cons_succ frz cutR cutAs cutA WL_sregT cutB cutBs

def LIn : CCode := (.loop [0, 1, 5] (.seq (.seq (.reg (⟨(some 11), .mv (.t 5), none⟩ ::
    ⟨(some 12), .mv (.t 0), none⟩ ::
    ⟨(some 13), .len false (.t 12), none⟩ ::
    ⟨(some 14), .bin .lss (.t 11) (.t 13), none⟩ ::
    []))
  (.cond (.t 14) .skip (.exit 0)))
  (.seq (.block 1 (.seq (.dreg (⟨(some 17), .mv (.t 0), none⟩ ::
    ⟨(some 18), .mv (.t 5), none⟩ ::
    ⟨(some 19), .ixs 1 (.t 17) (.t 18), none⟩ ::
    ⟨(some 20), .ld (.t 19), none⟩ ::
    ⟨(some 21), .mv (.t 1), none⟩ ::
    ⟨(some 22), .mv (.t 5), none⟩ ::
    ⟨(some 23), .ixs 1 (.t 21) (.t 22), none⟩ ::
    ⟨(some 24), .ld (.t 23), none⟩ ::
    []) (⟨(some 25), .bin .neq (.t 20) (.t 24), none⟩ ::
    []))
  (.cond (.t 25) (.seq (.reg (⟨(some 4), .mv (.c (.d (.bool false))), none⟩ ::
    []))
  .ret) .skip)))
  (.reg (⟨(some 15), .mv (.t 5), none⟩ ::
    ⟨(some 16), .bin .add (.t 15) (.c (.d (.int .i64 1))), none⟩ ::
    ⟨(some 5), .mv (.t 16), none⟩ ::
    [])))))
theorem LIn_eq : LIn = .loop [0, 1, 5] (.seq (.seq (.reg (⟨(some 11), .mv (.t 5), none⟩ ::
    ⟨(some 12), .mv (.t 0), none⟩ ::
    ⟨(some 13), .len false (.t 12), none⟩ ::
    ⟨(some 14), .bin .lss (.t 11) (.t 13), none⟩ ::
    []))
  (.cond (.t 14) .skip (.exit 0)))
  (.seq (.block 1 (.seq (.dreg (⟨(some 17), .mv (.t 0), none⟩ ::
    ⟨(some 18), .mv (.t 5), none⟩ ::
    ⟨(some 19), .ixs 1 (.t 17) (.t 18), none⟩ ::
    ⟨(some 20), .ld (.t 19), none⟩ ::
    ⟨(some 21), .mv (.t 1), none⟩ ::
    ⟨(some 22), .mv (.t 5), none⟩ ::
    ⟨(some 23), .ixs 1 (.t 21) (.t 22), none⟩ ::
    ⟨(some 24), .ld (.t 23), none⟩ ::
    []) (⟨(some 25), .bin .neq (.t 20) (.t 24), none⟩ ::
    []))
  (.cond (.t 25) (.seq (.reg (⟨(some 4), .mv (.c (.d (.bool false))), none⟩ ::
    []))
  .ret) .skip)))
  (.reg (⟨(some 15), .mv (.t 5), none⟩ ::
    ⟨(some 16), .bin .add (.t 15) (.c (.d (.int .i64 1))), none⟩ ::
    ⟨(some 5), .mv (.t 16), none⟩ ::
    [])))) := rfl
theorem ints_loop (l r : List Int) (hl : l.length < 9223372036854775808) (hlr : l.length = r.length) : ∀ (k i : Nat), l.length - i = k → i ≤ l.length → ∀ (env : Env), look env 0 = some (vsI l) → look env 1 = some (vsI r) → look env 5 = some (.d (.int .i64 i)) →
    ∀ (Q : Ex → Env → St → Prop), (l.drop i = r.drop i → ∀ env', Q (.ex 0) env' ⟨[], []⟩) → (l.drop i ≠ r.drop i → ∀ env' h', look env' 4 = some (.d (.bool false)) → Q .rt env' ⟨h', []⟩) → W (tbl []) ⟨[], 0⟩ LIn env ⟨[], []⟩ Q := by
  intro k
  induction k with
  | zero =>
    intro i hk hi env h0 h1 h13 Q hQ1 hQ2
    have hlt : ¬ i < l.length := by omega
    rw [LIn_eq, W_loop]
    simp [-getElem?_pos, h0, h1, h13, stepK.lenA, rowsI_length, hlt]
    exact hQ1 (by rw [List.drop_eq_nil_of_le (by omega), List.drop_eq_nil_of_le (by omega)]) _
  | succ k ih =>
    intro i hk hi env h0 h1 h13 Q hQ1 hQ2
    have hlt : i < l.length := by omega
    obtain ⟨m, hn⟩ : ∃ m, l[i]? = some m := ⟨_, List.getElem?_eq_getElem hlt⟩
    obtain ⟨m2, hn2⟩ : ∃ m, r[i]? = some m := ⟨_, List.getElem?_eq_getElem (by omega)⟩
    have hd : l.drop i = m :: l.drop (i + 1) := by rw [List.drop_eq_getElem_cons hlt]; congr 1; exact (List.getElem?_eq_some_iff.1 hn).2
    have hd2 : r.drop i = m2 :: r.drop (i + 1) := by rw [List.drop_eq_getElem_cons (by omega)]; congr 1; exact (List.getElem?_eq_some_iff.1 hn2).2
    have hw := wrapN1 i (by omega)
    rw [LIn_eq, W_loop]
    simp [-getElem?_pos, h0, h1, h13, stepK.lenA, rowsI_length, hlt, rowsI_get, hn, hn2, -Int.natCast_add]
    all_goals (try (first | refine WLV_splitN (fun hs => ?_) (fun hs => ?_) | refine WLC_splitN (fun hs => ?_) (fun hs => ?_) | refine WLB_splitN (fun hs => ?_) (fun hs => ?_) | refine WLPV_splitN (fun hs => ?_) (fun hs => ?_) | refine WLPC_splitN (fun hs => ?_) (fun hs => ?_) | refine WLPV_split (fun hs => ?_) (fun hs => ?_) | refine WLPC_split (fun hs => ?_) (fun hs => ?_) | refine WLV_split (fun hs => ?_) (fun hs => ?_) | refine WLC_split (fun hs => ?_) (fun hs => ?_) | refine WLB_split (fun hs => ?_) (fun hs => ?_)))
    all_goals (try (have hs' := hs; simp at hs'))
    all_goals (try simp [*, -getElem?_pos, h0, h1, h13, stepK.lenA, rowsI_length, hlt, rowsI_get, hn, hn2, -Int.natCast_add])
    all_goals first
      | (refine hQ2 (by rw [hd, hd2]; simp [*]) _ _ ?_; simp [-getElem?_pos]; done)
      | (refine (WL_of (c := LIn)).1 (ih (i + 1) (by omega) (by omega) _ ?_ ?_ ?_ Q (fun h => hQ1 ?_) (fun h => hQ2 ?_))
         · simp [-getElem?_pos, h0]
         · simp [-getElem?_pos, h1]
         · simp [-getElem?_pos, hw, -Int.natCast_add]
         · rw [hd, hd2, h]; simp [*]
         · rw [hd, hd2]; simp [*])
theorem garlandref12_Ints : Pure Tryd.prog 35 eqL_F := by
  refine con (T := tbl []) (tbl_ok (by simp)) rfl rfl fun ⟨l, r⟩ hl => ⟨rfl, ?_⟩
  by_cases hlr : l.length = r.length
  · simp [cf35, -getElem?_pos, SI, stepK.lenA, rowsI_length, hlr]
    rw [WL_code]
    refine ints_loop l r hl.1 hlr l.length 0 (by omega) (by omega) _ ?_ ?_ ?_ _ (fun h env' => ?_) (fun h env' h' h4 => ?_)
    all_goals (try (simp [-getElem?_pos, hlr]; done))
    · simp at h; subst h; simp [-getElem?_pos]
    · have e : (l == r) = false := by rw [beq_eq_false_iff_ne]; simpa using h
      simp [-getElem?_pos, h4, e]
  · have e : ((l.length : Int) == (r.length : Int)) = false := by rw [beq_eq_false_iff_ne]; omega
    have e1 : ¬ ((l.length : Int) = (r.length : Int)) := by omega
    have e2 : (l == r) = false := by rw [beq_eq_false_iff_ne]; rintro rfl; exact hlr rfl
    simp [cf35, -getElem?_pos, SI, stepK.lenA, rowsI_length, e, e1, e2, hlr]
noncomputable abbrev garlandref12_Ints_F := eqL_F
end Go.Proofs.YtfifgiopdbdeoaaDoor.Lite
namespace Go.Proofs.YtfifgiopdbdeoaaDoor.Lite
open Go
attribute [local simp] WL_of WL_nil WL_blk WL_skip WL_label WL_exit WL_goto WL_seq WL_block WL_cond WL_reg WL_ret WJ_nil WJ_ex WJ_gt WJ_rt WJ_exb WJ_gtb WJ_rtb WLO_nil WLO_call WO_nw stepN WO_mv WO_pick WO_new WO_box WO_ld WO_ldn WO_st WO_off WO_ixa WO_ixs WO_fld WO_fldn WO_ixv WO_ixvn WO_ixb WO_bin WO_eqb WO_isn WO_eqs WO_not WO_conv WO_mkf WO_bld WO_bls WO_sla WO_sls WO_sl0 WO_len WO_app WO_mnx WO_ext WO_nilc wants_none wants_some wantv_b wantv_t WLV_true WLV_false WLC_false WLB_true WLB_false evX_t evX_c evXs_nil evXs_cons look_put look_putN look_cons look_arg0 look_arg stepK binOpA intOp strOp evRes oneOf outs gc toDV AV.dat? I Bo av_s List.map List.append_nil getO putO AV.cellsOf bne WL_dreg WLP_nil WLP_call WP_mv WP_pick WP_new WP_box WP_ld WP_ldn WP_off WP_ixa WP_ixs WP_fld WP_fldn WP_ixv WP_ixvn WP_ixb WP_bin WP_eqb WP_isn WP_eqs WP_not WP_conv WP_mkf WP_bld WP_bls WP_sla WP_sls WP_sl0 WP_len WP_app WP_mnx WP_ext WP_nilc WLPV_true WLPV_false WLPC_false WLC_tells WLPC_tells padH onNm onEx List.getElem?_cons_zero List.getElem?_cons_succ List.getElem?_nil restrict AV.lows lay AV.isCell lowObj AObj.lows WJ_nm AV.lows.go WL_scope onGt_rt onGt_nm onGt_ex WL_sreg WP_st preSt eraseB List.set_cons_zero List.set_cons_succ frz cutR cutAs cutA WL_sregT cutB cutBs

theorem eqCells_ints : ∀ (l k : List Int), l.length = k.length → eqCells (List.replicate l.length 0) (l.map fun n => .d (.int .i64 n)) (k.map fun n => .d (.int .i64 n)) = some (l == k)
  | [], [], _ => rfl
  | a :: l, b :: k, h => by
    have ih := eqCells_ints l k (by simpa using h)
    by_cases e : a = b
    · subst e
      simp [List.replicate_succ, eqCells, eqCell, ih]
    · have e' : (a == b) = false := by simpa using e
      simp [List.replicate_succ, eqCells, eqCell, e', e]
  | [], _ :: _, h => by simp at h
  | _ :: _, [], h => by simp at h
theorem eq16 (a b : VW) : eqCells [0, 0, 0, 0, 0, 0, 0, 0, 0, 0, 0, 0, 0, 0, 0, 0] (a.fin.map fun n => .d (.int .i64 n)) (b.fin.map fun n => .d (.int .i64 n)) = some (a.fin == b.fin) := by
  have := eqCells_ints a.fin b.fin (by rw [a.hf, b.hf])
  rw [a.hf] at this
  exact this
def VW.same (a b : VW) : Bool := (a.id == b.id) && (a.base == b.base) && (a.lst == b.lst) && (a.pred == b.pred) && (a.fin == b.fin)
theorem VW.same_iff (a b : VW) : a.same b = true ↔ a = b := by
  obtain ⟨_, _, _, _, _, _, _, _⟩ := a
  obtain ⟨_, _, _, _, _, _, _, _⟩ := b
  simp [VW.same, and_assoc]
noncomputable def sameV_F := orcOf (fun p : VW × VW => [V p.1, V p.2]) (fun _ => True) (fun p => [Bo (p.1.same p.2)])
noncomputable def TSV : Tbl := tbl [(35, garlandref12_Ints_F)]
theorem TSV_ok : TblOK Tryd.prog TSV := tbl_ok (by
  simp only [List.mem_cons, List.not_mem_nil, or_false]
  rintro p (rfl)
  · exact garlandref12_Ints)
instance : Has TSV 35 garlandref12_Ints_F := ⟨rfl⟩

theorem garlandref13_Same : Pure Tryd.prog 15 sameV_F := by
  refine con TSV_ok rfl rfl fun ⟨a, b⟩ _ => ⟨rfl, ?_⟩
  haveI : Fact (a.base.length < 9223372036854775808) := ⟨a.hb⟩
  haveI : Fact (a.lst.length < 9223372036854775808) := ⟨a.hl⟩
  haveI : Fact (b.base.length < 9223372036854775808) := ⟨b.hb⟩
  haveI : Fact (b.lst.length < 9223372036854775808) := ⟨b.hl⟩
  have ha := cs_length a
  have hb := cs_length b
  simp [cf15, V_av, -getElem?_pos, cs_0, cs_1, cs_2, cs_3, cs_fin, eq16, cs_length, cs_all, cs_lows]
  all_goals (try (first | refine WLV_splitN (fun hs => ?_) (fun hs => ?_) | refine WLC_splitN (fun hs => ?_) (fun hs => ?_) | refine WLB_splitN (fun hs => ?_) (fun hs => ?_) | refine WLPV_splitN (fun hs => ?_) (fun hs => ?_) | refine WLPC_splitN (fun hs => ?_) (fun hs => ?_) | refine WLPV_split (fun hs => ?_) (fun hs => ?_) | refine WLPC_split (fun hs => ?_) (fun hs => ?_) | refine WLV_split (fun hs => ?_) (fun hs => ?_) | refine WLC_split (fun hs => ?_) (fun hs => ?_) | refine WLB_split (fun hs => ?_) (fun hs => ?_)))
  all_goals (try (have hs' := hs; simp at hs'))
  all_goals (try simp [*, -getElem?_pos, cs_0, cs_1, cs_2, cs_3, cs_fin, eq16, cs_length, cs_all, cs_lows])
  all_goals (try (first | refine WLV_splitN (fun hs => ?_) (fun hs => ?_) | refine WLC_splitN (fun hs => ?_) (fun hs => ?_) | refine WLB_splitN (fun hs => ?_) (fun hs => ?_) | refine WLPV_splitN (fun hs => ?_) (fun hs => ?_) | refine WLPC_splitN (fun hs => ?_) (fun hs => ?_) | refine WLPV_split (fun hs => ?_) (fun hs => ?_) | refine WLPC_split (fun hs => ?_) (fun hs => ?_) | refine WLV_split (fun hs => ?_) (fun hs => ?_) | refine WLC_split (fun hs => ?_) (fun hs => ?_) | refine WLB_split (fun hs => ?_) (fun hs => ?_)))
  all_goals (try (have hs' := hs; simp at hs'))
  all_goals (try simp [*, -getElem?_pos, cs_0, cs_1, cs_2, cs_3, cs_fin, eq16, cs_length, cs_all, cs_lows])
  all_goals (try (first | refine WLV_splitN (fun hs => ?_) (fun hs => ?_) | refine WLC_splitN (fun hs => ?_) (fun hs => ?_) | refine WLB_splitN (fun hs => ?_) (fun hs => ?_) | refine WLPV_splitN (fun hs => ?_) (fun hs => ?_) | refine WLPC_splitN (fun hs => ?_) (fun hs => ?_) | refine WLPV_split (fun hs => ?_) (fun hs => ?_) | refine WLPC_split (fun hs => ?_) (fun hs => ?_) | refine WLV_split (fun hs => ?_) (fun hs => ?_) | refine WLC_split (fun hs => ?_) (fun hs => ?_) | refine WLB_split (fun hs => ?_) (fun hs => ?_)))
  all_goals (try (have hs' := hs; simp at hs'))
  all_goals (try simp [*, -getElem?_pos, cs_0, cs_1, cs_2, cs_3, cs_fin, eq16, cs_length, cs_all, cs_lows])
  all_goals (try (first | refine WLV_splitN (fun hs => ?_) (fun hs => ?_) | refine WLC_splitN (fun hs => ?_) (fun hs => ?_) | refine WLB_splitN (fun hs => ?_) (fun hs => ?_) | refine WLPV_splitN (fun hs => ?_) (fun hs => ?_) | refine WLPC_splitN (fun hs => ?_) (fun hs => ?_) | refine WLPV_split (fun hs => ?_) (fun hs => ?_) | refine WLPC_split (fun hs => ?_) (fun hs => ?_) | refine WLV_split (fun hs => ?_) (fun hs => ?_) | refine WLC_split (fun hs => ?_) (fun hs => ?_) | refine WLB_split (fun hs => ?_) (fun hs => ?_)))
  all_goals (try (have hs' := hs; simp at hs'))
  all_goals (try simp [*, -getElem?_pos, cs_0, cs_1, cs_2, cs_3, cs_fin, eq16, cs_length, cs_all, cs_lows])
  all_goals (try (first | refine WLV_splitN (fun hs => ?_) (fun hs => ?_) | refine WLC_splitN (fun hs => ?_) (fun hs => ?_) | refine WLB_splitN (fun hs => ?_) (fun hs => ?_) | refine WLPV_splitN (fun hs => ?_) (fun hs => ?_) | refine WLPC_splitN (fun hs => ?_) (fun hs => ?_) | refine WLPV_split (fun hs => ?_) (fun hs => ?_) | refine WLPC_split (fun hs => ?_) (fun hs => ?_) | refine WLV_split (fun hs => ?_) (fun hs => ?_) | refine WLC_split (fun hs => ?_) (fun hs => ?_) | refine WLB_split (fun hs => ?_) (fun hs => ?_)))
  all_goals (try (have hs' := hs; simp at hs'))
  all_goals (try simp [*, -getElem?_pos, cs_0, cs_1, cs_2, cs_3, cs_fin, eq16, cs_length, cs_all, cs_lows])
  all_goals (simp [VW.same, *])
noncomputable abbrev garlandref13_Same_F := sameV_F
end Go.Proofs.YtfifgiopdbdeoaaDoor.Lite
namespace Go.Proofs.YtfifgiopdbdeoaaDoor.Lite
open Go
attribute [local simp] WL_of WL_nil WL_blk WL_skip WL_label WL_exit WL_goto WL_seq WL_block WL_cond WL_reg WL_ret WJ_nil WJ_ex WJ_gt WJ_rt WJ_exb WJ_gtb WJ_rtb WLO_nil WLO_call WO_nw stepN WO_mv WO_pick WO_new WO_box WO_ld WO_ldn WO_st WO_off WO_ixa WO_ixs WO_fld WO_fldn WO_ixv WO_ixvn WO_ixb WO_bin WO_eqb WO_isn WO_eqs WO_not WO_conv WO_mkf WO_bld WO_bls WO_sla WO_sls WO_sl0 WO_len WO_app WO_mnx WO_ext WO_nilc wants_none wants_some wantv_b wantv_t WLV_true WLV_false WLC_false WLB_true WLB_false evX_t evX_c evXs_nil evXs_cons look_put look_putN look_cons look_arg0 look_arg stepK binOpA intOp strOp evRes oneOf outs gc toDV AV.dat? I Bo av_s List.map List.append_nil getO putO AV.cellsOf bne WL_dreg WLP_nil WLP_call WP_mv WP_pick WP_new WP_box WP_ld WP_ldn WP_off WP_ixa WP_ixs WP_fld WP_fldn WP_ixv WP_ixvn WP_ixb WP_bin WP_eqb WP_isn WP_eqs WP_not WP_conv WP_mkf WP_bld WP_bls WP_sla WP_sls WP_sl0 WP_len WP_app WP_mnx WP_ext WP_nilc WLPV_true WLPV_false WLPC_false WLC_tells WLPC_tells padH onNm onEx List.getElem?_cons_zero List.getElem?_cons_succ List.getElem?_nil restrict AV.lows lay AV.isCell lowObj AObj.lows WJ_nm AV.lows.go WL_scope onGt_rt onGt_nm onGt_ex WL_sreg WP_st preSt eraseB List.set_cons_zero List.set_cons_succ frz cutR cutAs cutA WL_sregT cutB cutBs

instance (a b : VW) : Tells sameV_F [.agg a.cs, .agg b.cs] (.d (.bool (a.same b))) :=
  ⟨[V a, V b], [Bo (a.same b)], fun h => by simp [toDVs, toDV, cs_dats, V], orcOf_eq (enc := fun p : VW × VW => [V p.1, V p.2]) (x := (a, b)) trivial (fun y h => by
    simp only [V, List.cons.injEq, DV.g.injEq, and_true] at h
    exact Prod.ext (VW.inj h.1) (VW.inj h.2)), rfl, rfl, fun _ _ => by simp [AV.lows, cs_lows]⟩
instance (v : VW) [h : Fact v.small] : Tells own_F [.agg v.cs] (.agg v.cs) :=
  ⟨[V v], [V v], fun h => by simp [toDVs, toDV, cs_dats, V], orcOf_eq (enc := fun v : VW => [V v]) (x := v) h.out (fun y h => by
    simp only [V, List.cons.injEq, DV.g.injEq, and_true] at h
    exact VW.inj h), by rw [List.map_cons, List.map_nil, V_av]; rfl, by simp [AV.tied], fun _ _ => by simp [AV.lows, cs_lows]⟩

theorem clone_nil {T : Tbl} {rd : Rd} {st : St} {R : AV → St → Prop} {x : AV} (hx : x.isE = true) (hlow : ∀ o ∈ st.h, lowObj st.h.length rd.lp.length o = true) (ho : T.orc 83 = none) (hc : T.code 83 = some cf83) (q : R .nils st) : WC T rd (.fn 83 []) [x] st R := by
  obtain ⟨h, pd⟩ := st
  refine WC_ref (cf := cf83) ho hc rfl hx ?_ ?_ q
  · rw [WC_code' (cf := cf83) ho hc refine_emp]
    refine ⟨rfl, ?_⟩
    simp [cf83, -getElem?_pos, -lowObj, -AObj.lows, if_pos hlow]
  · rw [WC_code' (cf := cf83) ho hc refine_emp]
    refine ⟨rfl, ?_⟩
    simp [cf83, -getElem?_pos, rows?, -lowObj, -AObj.lows, if_pos hlow]
theorem clone_ne {T : Tbl} {rd : Rd} {h : Heap} {pd : List (Option Ex)} {R : AV → St → Prop} {l : List Int} (hne : l ≠ []) (hl : l.length ≤ 4294967296) (ho : T.orc 83 = none) (hc : T.code 83 = some cf83)
    (q : R (.slr (h.length + 1) 0 l.length 1 l.length) ⟨h ++ [some (.tok 1 0), some (.cells (flatC (rowsI l)))], pd⟩) : WC T rd (.fn 83 []) [vsI l] ⟨h, pd⟩ R := by
  have hrl : l.length ≤ LIM := by unfold LIM; omega
  have hrok := rowsI_ok l
  have hln := rowsI_length l
  obtain ⟨r0, rs, hrx⟩ : ∃ r0 rs, rowsI l = r0 :: rs := by
    cases l with
    | nil => exact absurd rfl hne
    | cons a l => exact ⟨_, _, rfl⟩
  have hlr : rs.length + 1 = l.length := by rw [← hln, hrx]; rfl
  rw [hrx] at q hrok
  show WC T rd _ [.d (.sl (rowsI l))] _ _
  rw [hrx]
  have hlr2 : rs.length + 1 ≤ LIM := by omega
  rw [WC_code' (cf := cf83) ho hc (by cases T; rfl)]
  refine ⟨rfl, ?_⟩
  rw [← hlr] at q
  have hno : ¬ (h.length + 1 < h.length) := by omega
  simp [cf83, -getElem?_pos, rows?, hrok, hlr2, hno]
  simpa using q
end Go.Proofs.YtfifgiopdbdeoaaDoor.Lite
namespace Go.Proofs.YtfifgiopdbdeoaaDoor.Lite
open Go
attribute [local simp] WL_of WL_nil WL_blk WL_skip WL_label WL_exit WL_goto WL_seq WL_block WL_cond WL_reg WL_ret WJ_nil WJ_ex WJ_gt WJ_rt WJ_exb WJ_gtb WJ_rtb WLO_nil WLO_call WO_nw stepN WO_mv WO_pick WO_new WO_box WO_ld WO_ldn WO_st WO_off WO_ixa WO_ixs WO_fld WO_fldn WO_ixv WO_ixvn WO_ixb WO_bin WO_eqb WO_isn WO_eqs WO_not WO_conv WO_mkf WO_bld WO_bls WO_sla WO_sls WO_sl0 WO_len WO_app WO_mnx WO_ext WO_nilc wants_none wants_some wantv_b wantv_t WLV_true WLV_false WLC_false WLB_true WLB_false evX_t evX_c evXs_nil evXs_cons look_put look_putN look_cons look_arg0 look_arg stepK binOpA intOp strOp evRes oneOf outs gc toDV AV.dat? I Bo av_s List.map List.append_nil getO putO AV.cellsOf bne WL_dreg WLP_nil WLP_call WP_mv WP_pick WP_new WP_box WP_ld WP_ldn WP_off WP_ixa WP_ixs WP_fld WP_fldn WP_ixv WP_ixvn WP_ixb WP_bin WP_eqb WP_isn WP_eqs WP_not WP_conv WP_mkf WP_bld WP_bls WP_sla WP_sls WP_sl0 WP_len WP_app WP_mnx WP_ext WP_nilc WLPV_true WLPV_false WLPC_false WLC_tells WLPC_tells padH onNm onEx List.getElem?_cons_zero List.getElem?_cons_succ List.getElem?_nil restrict AV.lows lay AV.isCell lowObj AObj.lows WJ_nm AV.lows.go WL_scope onGt_rt onGt_nm onGt_ex WL_sreg WP_st preSt eraseB List.set_cons_zero List.set_cons_succ frz cutR cutAs cutA WL_sregT cutB cutBs

def csI (l : List Int) : List AV := l.map fun n => .d (.int .i64 n)
theorem csI_get (l : List Int) (i : Nat) : (csI l)[i]? = (l[i]?).map fun n => .d (.int .i64 n) := by simp [csI]
theorem csI_len (l : List Int) : (csI l).length = l.length := by simp [csI]
theorem csI_lows (N M : Nat) (l : List Int) : ∀ x ∈ csI l, AV.lows N M x = true := by
  intro x hx
  simp only [csI, List.mem_map] at hx
  obtain ⟨n, _, rfl⟩ := hx; rfl
def hpC (d : Int) (l : List Int) : Heap := [some (.cells [.d (.int .i64 d)]), some (.tok 1 0), some (.cells (csI l))]
def LIx : CCode := (.loop [0, 1, 7, 8] (.seq (.reg (⟨(some 9), .bin .lss (.t 8) (.t 7), none⟩ ::
    []))
  (.seq (.cond (.t 9) .skip (.exit 0))
  (.seq (.block 1 (.seq (.reg (⟨(some 10), .mv (.t 8), none⟩ ::
    ⟨(some 5), .mv (.t 10), none⟩ ::
    []))
  (.seq (.reg (⟨(some 11), .mv (.t 1), none⟩ ::
    ⟨(some 12), .mv (.t 0), none⟩ ::
    ⟨(some 13), .mv (.t 5), none⟩ ::
    ⟨(some 14), .ixs 1 (.t 12) (.t 13), none⟩ ::
    ⟨(some 15), .ld (.t 14), none⟩ ::
    ⟨(some 16), .call (.t 11) [(.t 15)], none⟩ ::
    []))
  (.cond (.t 16) (.seq (.reg (⟨(some 17), .mv (.t 5), none⟩ ::
    ⟨(some 4), .mv (.t 17), none⟩ ::
    []))
  .ret) .skip))))
  (.reg (⟨(some 18), .bin .add (.t 8) (.c (.d (.int .i64 1))), none⟩ ::
    ⟨(some 8), .mv (.t 18), none⟩ ::
    []))))))
theorem LIx_eq : LIx = .loop [0, 1, 7, 8] (.seq (.reg (⟨(some 9), .bin .lss (.t 8) (.t 7), none⟩ ::
    []))
  (.seq (.cond (.t 9) .skip (.exit 0))
  (.seq (.block 1 (.seq (.reg (⟨(some 10), .mv (.t 8), none⟩ ::
    ⟨(some 5), .mv (.t 10), none⟩ ::
    []))
  (.seq (.reg (⟨(some 11), .mv (.t 1), none⟩ ::
    ⟨(some 12), .mv (.t 0), none⟩ ::
    ⟨(some 13), .mv (.t 5), none⟩ ::
    ⟨(some 14), .ixs 1 (.t 12) (.t 13), none⟩ ::
    ⟨(some 15), .ld (.t 14), none⟩ ::
    ⟨(some 16), .call (.t 11) [(.t 15)], none⟩ ::
    []))
  (.cond (.t 16) (.seq (.reg (⟨(some 17), .mv (.t 5), none⟩ ::
    ⟨(some 4), .mv (.t 17), none⟩ ::
    []))
  .ret) .skip))))
  (.reg (⟨(some 18), .bin .add (.t 8) (.c (.d (.int .i64 1))), none⟩ ::
    ⟨(some 8), .mv (.t 18), none⟩ ::
    []))))) := rfl
theorem idxf_loop (d : Int) (l : List Int) (hl : l.length < 9223372036854775807) : ∀ (k i : Nat), l.length - i = k → i ≤ l.length → ∀ (env : Env), look env 0 = some (.slr 2 0 l.length 1 l.length) → look env 1 = some (.fn 126 [.ptr 0 0]) →
    look env 7 = some (.d (.int .i64 l.length)) → look env 8 = some (.d (.int .i64 i)) → ∀ (Q : Ex → Env → St → Prop),
    ((∀ j n, i ≤ j → l[j]? = some n → n ≠ d) → ∀ env', Q (.ex 0) env' ⟨hpC d l, []⟩) →
    (∀ j : Nat, i ≤ j → l[j]? = some d → (∀ j' n, i ≤ j' → j' < j → l[j']? = some n → n ≠ d) → ∀ env', look env' 4 = some (.d (.int .i64 j)) → Q .rt env' ⟨hpC d l, []⟩) → W (tbl []) ⟨[], 0⟩ LIx env ⟨hpC d l, []⟩ Q := by
  intro k
  induction k with
  | zero =>
    intro i hk hi env h0 h1 h7 h8 Q hQ1 hQ2
    have hlt : ¬ i < l.length := by omega
    rw [LIx_eq, W_loop]
    simp [-getElem?_pos, h0, h1, h7, h8, hlt]
    exact hQ1 (fun j n hj hn => absurd (List.getElem?_eq_some_iff.1 hn).1 (by omega)) _
  | succ k ih =>
    intro i hk hi env h0 h1 h7 h8 Q hQ1 hQ2
    have hlt : i < l.length := by omega
    obtain ⟨n, hn⟩ : ∃ n, l[i]? = some n := ⟨_, List.getElem?_eq_getElem hlt⟩
    have hw := wrapN1 i (by omega)
    have hlow := csI_lows 3 0 l
    rw [LIx_eq, W_loop]
    simp [-getElem?_pos, h0, h1, h7, h8, hlt, hpC, csI_get, hn, -Int.natCast_add]
    refine WLC_fn (cf := cf126) rfl rfl rfl ?_
    simp [cf126, afterC, -getElem?_pos, -Int.natCast_add]
    all_goals (try (first | refine WLV_splitN (fun hs => ?_) (fun hs => ?_) | refine WLC_splitN (fun hs => ?_) (fun hs => ?_) | refine WLB_splitN (fun hs => ?_) (fun hs => ?_) | refine WLPV_splitN (fun hs => ?_) (fun hs => ?_) | refine WLPC_splitN (fun hs => ?_) (fun hs => ?_) | refine WLPV_split (fun hs => ?_) (fun hs => ?_) | refine WLPC_split (fun hs => ?_) (fun hs => ?_) | refine WLV_split (fun hs => ?_) (fun hs => ?_) | refine WLC_split (fun hs => ?_) (fun hs => ?_) | refine WLB_split (fun hs => ?_) (fun hs => ?_)))
    all_goals (try (have hs' := hs; simp at hs'))
    all_goals (try simp [*, -getElem?_pos, h0, h1, h7, h8, hlt, hlow, -Int.natCast_add])
    · have e : n = d := by simpa using hs
      subst e
      exact hQ2 i (Nat.le_refl _) hn (fun j' m h3 h4 => absurd h4 (by omega)) _ (by simp [-getElem?_pos])
    · have e : n ≠ d := by simpa using hs
      refine (WL_of (c := LIx)).1 (ih (i + 1) (by omega) (by omega) _ ?_ ?_ ?_ ?_ Q (fun hc => hQ1 fun j m hj hm => ?_) (fun j hj hm hb => hQ2 j (by omega) hm fun j' m h3 h4 h5 => ?_))
      · simp [-getElem?_pos, h0]
      · simp [-getElem?_pos, h1]
      · simp [-getElem?_pos, h7]
      · simp [-getElem?_pos, hw, -Int.natCast_add]
      · rcases Nat.lt_or_ge i j with h | h
        · exact hc j m (by omega) hm
        · have : j = i := by omega
          subst this; rw [hn] at hm; cases hm; exact e
      · rcases Nat.lt_or_ge i j' with h | h
        · exact hb j' m (by omega) h4 h5
        · have : j' = i := by omega
          subst this; rw [hn] at h5; cases h5; exact e
end Go.Proofs.YtfifgiopdbdeoaaDoor.Lite
namespace Go.Proofs.YtfifgiopdbdeoaaDoor.Lite
open Go
attribute [local simp] WL_of WL_nil WL_blk WL_skip WL_label WL_exit WL_goto WL_seq WL_block WL_cond WL_reg WL_ret WJ_nil WJ_ex WJ_gt WJ_rt WJ_exb WJ_gtb WJ_rtb WLO_nil WLO_call WO_nw stepN WO_mv WO_pick WO_new WO_box WO_ld WO_ldn WO_st WO_off WO_ixa WO_ixs WO_fld WO_fldn WO_ixv WO_ixvn WO_ixb WO_bin WO_eqb WO_isn WO_eqs WO_not WO_conv WO_mkf WO_bld WO_bls WO_sla WO_sls WO_sl0 WO_len WO_app WO_mnx WO_ext WO_nilc wants_none wants_some wantv_b wantv_t WLV_true WLV_false WLC_false WLB_true WLB_false evX_t evX_c evXs_nil evXs_cons look_put look_putN look_cons look_arg0 look_arg stepK binOpA intOp strOp evRes oneOf outs gc toDV AV.dat? I Bo av_s List.map List.append_nil getO putO AV.cellsOf bne WL_dreg WLP_nil WLP_call WP_mv WP_pick WP_new WP_box WP_ld WP_ldn WP_off WP_ixa WP_ixs WP_fld WP_fldn WP_ixv WP_ixvn WP_ixb WP_bin WP_eqb WP_isn WP_eqs WP_not WP_conv WP_mkf WP_bld WP_bls WP_sla WP_sls WP_sl0 WP_len WP_app WP_mnx WP_ext WP_nilc WLPV_true WLPV_false WLPC_false WLC_tells WLPC_tells padH onNm onEx List.getElem?_cons_zero List.getElem?_cons_succ List.getElem?_nil restrict AV.lows lay AV.isCell lowObj AObj.lows WJ_nm AV.lows.go WL_scope onGt_rt onGt_nm onGt_ex WL_sreg WP_st preSt eraseB List.set_cons_zero List.set_cons_succ frz cutR cutAs cutA WL_sregT cutB cutBs

def LDl : CCode := (.loop [0, 1, 5, 6] (.seq (.seq (.reg (⟨(some 16), .mv (.t 6), none⟩ ::
    ⟨(some 17), .mv (.t 0), none⟩ ::
    ⟨(some 18), .len false (.t 17), none⟩ ::
    ⟨(some 19), .bin .lss (.t 16) (.t 18), none⟩ ::
    []))
  (.cond (.t 19) .skip (.exit 0)))
  (.seq (.block 1 (.seq (.reg (⟨(some 22), .mv (.t 0), none⟩ ::
    ⟨(some 23), .mv (.t 6), none⟩ ::
    ⟨(some 24), .ixs 1 (.t 22) (.t 23), none⟩ ::
    ⟨(some 25), .ld (.t 24), none⟩ ::
    ⟨(some 7), .mv (.t 25), none⟩ ::
    []))
  (.seq (.reg (⟨(some 26), .mv (.t 1), none⟩ ::
    ⟨(some 27), .mv (.t 7), none⟩ ::
    ⟨(some 28), .call (.t 26) [(.t 27)], none⟩ ::
    ⟨(some 29), .not (.t 28), none⟩ ::
    []))
  (.cond (.t 29) (.seq (.reg (⟨(some 30), .mv (.t 0), none⟩ ::
    ⟨(some 31), .mv (.t 5), none⟩ ::
    ⟨(some 32), .mv (.t 7), none⟩ ::
    ⟨(some 33), .ixs 1 (.t 30) (.t 31), none⟩ ::
    ⟨none, .st 1 (.t 33) (.t 32), none⟩ ::
    []))
  (.reg (⟨(some 34), .mv (.t 5), none⟩ ::
    ⟨(some 35), .bin .add (.t 34) (.c (.d (.int .i64 1))), none⟩ ::
    ⟨(some 5), .mv (.t 35), none⟩ ::
    []))) .skip))))
  (.reg (⟨(some 20), .mv (.t 6), none⟩ ::
    ⟨(some 21), .bin .add (.t 20) (.c (.d (.int .i64 1))), none⟩ ::
    ⟨(some 6), .mv (.t 21), none⟩ ::
    [])))))
theorem LDl_eq : LDl = .loop [0, 1, 5, 6] (.seq (.seq (.reg (⟨(some 16), .mv (.t 6), none⟩ ::
    ⟨(some 17), .mv (.t 0), none⟩ ::
    ⟨(some 18), .len false (.t 17), none⟩ ::
    ⟨(some 19), .bin .lss (.t 16) (.t 18), none⟩ ::
    []))
  (.cond (.t 19) .skip (.exit 0)))
  (.seq (.block 1 (.seq (.reg (⟨(some 22), .mv (.t 0), none⟩ ::
    ⟨(some 23), .mv (.t 6), none⟩ ::
    ⟨(some 24), .ixs 1 (.t 22) (.t 23), none⟩ ::
    ⟨(some 25), .ld (.t 24), none⟩ ::
    ⟨(some 7), .mv (.t 25), none⟩ ::
    []))
  (.seq (.reg (⟨(some 26), .mv (.t 1), none⟩ ::
    ⟨(some 27), .mv (.t 7), none⟩ ::
    ⟨(some 28), .call (.t 26) [(.t 27)], none⟩ ::
    ⟨(some 29), .not (.t 28), none⟩ ::
    []))
  (.cond (.t 29) (.seq (.reg (⟨(some 30), .mv (.t 0), none⟩ ::
    ⟨(some 31), .mv (.t 5), none⟩ ::
    ⟨(some 32), .mv (.t 7), none⟩ ::
    ⟨(some 33), .ixs 1 (.t 30) (.t 31), none⟩ ::
    ⟨none, .st 1 (.t 33) (.t 32), none⟩ ::
    []))
  (.reg (⟨(some 34), .mv (.t 5), none⟩ ::
    ⟨(some 35), .bin .add (.t 34) (.c (.d (.int .i64 1))), none⟩ ::
    ⟨(some 5), .mv (.t 35), none⟩ ::
    []))) .skip))))
  (.reg (⟨(some 20), .mv (.t 6), none⟩ ::
    ⟨(some 21), .bin .add (.t 20) (.c (.d (.int .i64 1))), none⟩ ::
    ⟨(some 6), .mv (.t 21), none⟩ ::
    [])))) := rfl
theorem dl_loop (d : Int) (n : Nat) (hn63 : n < 9223372036854775807) : ∀ (r kept mid : List Int), mid ≠ [] → kept.length + mid.length + r.length = n → ∀ (env : Env), look env 0 = some (.slr 2 0 n 1 n) → look env 1 = some (.fn 126 [.ptr 0 0]) →
    look env 5 = some (.d (.int .i64 (kept.length : Nat))) → look env 6 = some (.d (.int .i64 ((kept.length + mid.length : Nat) : Int))) → ∀ (Q : Ex → Env → St → Prop),
    (∀ mid' : List Int, mid' ≠ [] → (kept ++ r.filter (· != d)).length + mid'.length = n → ∀ env', look env' 0 = some (.slr 2 0 n 1 n) → look env' 5 = some (.d (.int .i64 ((kept ++ r.filter (· != d)).length : Nat))) → Q (.ex 0) env' ⟨hpC d (kept ++ r.filter (· != d) ++ mid'), []⟩) →
    W (tbl []) ⟨[], 0⟩ LDl env ⟨hpC d (kept ++ mid ++ r), []⟩ Q := by
  intro r
  induction r with
  | nil =>
    intro kept mid hm hs env h0 h1 h5 h6 Q hQ
    have hlt : ¬ kept.length + mid.length < n := by simp at hs; omega
    rw [LDl_eq, W_loop]
    simp [-getElem?_pos, h0, h1, h5, h6, stepK.lenA, hlt, -Int.natCast_add]
    simpa using hQ mid hm (by simpa using hs) _ (by simp [-getElem?_pos, h0]) (by simp [-getElem?_pos, h5])
  | cons v r ih =>
    intro kept mid hm hs env h0 h1 h5 h6 Q hQ
    have hlt : kept.length + mid.length < n := by simp at hs; omega
    have hw := wrapN1 (kept.length + mid.length) (by omega)
    have hw2 := wrapN1 kept.length (by omega)
    have hk : kept.length < n := by omega
    have hget : (kept ++ mid ++ v :: r)[kept.length + mid.length]? = some v := by
      rw [List.getElem?_append_right (by simp)]; simp
    have hlow := csI_lows 3 0 (kept ++ mid ++ v :: r)
    have hlen := csI_len (kept ++ mid ++ v :: r)
    have hsz : (kept ++ mid ++ v :: r).length = n := by simp at hs ⊢; omega
    obtain ⟨m0, mid1, rfl⟩ : ∃ m0 mid1, mid = m0 :: mid1 := by cases mid with | nil => exact absurd rfl hm | cons a b => exact ⟨a, b, rfl⟩
    have hlay : (csI (kept ++ m0 :: mid1 ++ v :: r)).take kept.length ++ AV.d (.int .i64 v) :: (csI (kept ++ m0 :: mid1 ++ v :: r)).drop (kept.length + 1) = csI ((kept ++ [v]) ++ (mid1 ++ [v]) ++ r) := by
      simp [csI, List.take_append, List.drop_append]
    obtain ⟨C, hC⟩ : ∃ C, C = kept ++ m0 :: mid1 ++ v :: r := ⟨_, rfl⟩
    rw [← hC] at hget hlow hlen hsz hlay ⊢
    obtain ⟨J, hJ⟩ : ∃ J, J = kept.length + (m0 :: mid1).length := ⟨_, rfl⟩
    rw [← hJ] at hget hlt hw h6
    have FC : Fact (C = kept ++ m0 :: mid1 ++ v :: r) := ⟨hC⟩
    have FJ : Fact (J = kept.length + (m0 :: mid1).length) := ⟨hJ⟩
    have hk1 : kept.length + 1 ≤ n := by omega
    clear hC hJ hs
    rw [LDl_eq, W_loop]
    simp [-getElem?_pos, h0, h1, h5, h6, stepK.lenA, hlt, hpC, csI_get, hget, -Int.natCast_add]
    refine WLC_fn (cf := cf126) rfl rfl rfl ?_
    simp [cf126, afterC, -getElem?_pos, -Int.natCast_add]
    all_goals (try (first | refine WLV_splitN (fun hs => ?_) (fun hs => ?_) | refine WLC_splitN (fun hs => ?_) (fun hs => ?_) | refine WLB_splitN (fun hs => ?_) (fun hs => ?_) | refine WLPV_splitN (fun hs => ?_) (fun hs => ?_) | refine WLPC_splitN (fun hs => ?_) (fun hs => ?_) | refine WLPV_split (fun hs => ?_) (fun hs => ?_) | refine WLPC_split (fun hs => ?_) (fun hs => ?_) | refine WLV_split (fun hs => ?_) (fun hs => ?_) | refine WLC_split (fun hs => ?_) (fun hs => ?_) | refine WLB_split (fun hs => ?_) (fun hs => ?_)))
    all_goals (try (have hs' := hs; simp at hs'))
    all_goals (try simp [*, -getElem?_pos, h0, h1, h5, h6, hlt, hlow, hk, hk1, hlen, hsz, hlay, hw, hw2, -Int.natCast_add])
    · have e : v ≠ d := by simpa using hs
      have hf : (v :: r).filter (· != d) = v :: r.filter (· != d) := by simp [e]
      rw [hf] at hQ
      have eqc : kept ++ [v] ++ (mid1 ++ [v]) ++ r = kept ++ v :: (mid1 ++ v :: r) := by simp
      have hJ := FJ.out
      have hsz2 := hsz
      rw [FC.out] at hsz2
      simp at hsz2 hJ
      refine (WL_of (c := LDl)).1 ?_
      show W (tbl []) ⟨[], 0⟩ LDl _ ⟨hpC d (kept ++ v :: (mid1 ++ v :: r)), []⟩ Q
      rw [← eqc]
      refine ih (kept ++ [v]) (mid1 ++ [v]) (by simp) ?_ _ ?_ ?_ ?_ ?_ Q (fun mid' h2 h3 env' h4 h5' => ?_)
      · simp; omega
      · simp [-getElem?_pos]
      · simp [-getElem?_pos]
      · simp [-getElem?_pos]
      · simp [-getElem?_pos, hJ]; omega
      · simpa using hQ mid' h2 (by simpa using h3) env' h4 (by simpa using h5')
    · have e : v = d := by simpa using hs
      have hf : (v :: r).filter (· != d) = r.filter (· != d) := by simp [e]
      rw [hf] at hQ
      have hJ := FJ.out
      have hsz2 := hsz
      rw [FC.out] at hsz2
      simp at hsz2 hJ
      refine (WL_of (c := LDl)).1 ?_
      rw [FC.out]
      have eqc : kept ++ m0 :: mid1 ++ v :: r = kept ++ (m0 :: mid1 ++ [v]) ++ r := by simp
      show W (tbl []) ⟨[], 0⟩ LDl _ ⟨hpC d (kept ++ m0 :: mid1 ++ v :: r), []⟩ Q
      rw [eqc]
      refine ih kept (m0 :: mid1 ++ [v]) (by simp) ?_ _ ?_ ?_ ?_ ?_ Q hQ
      · simp; omega
      · simp [-getElem?_pos]
      · simp [-getElem?_pos]
      · simp [-getElem?_pos]
      · simp [-getElem?_pos, hJ]; omega
end Go.Proofs.YtfifgiopdbdeoaaDoor.Lite
namespace Go.Proofs.YtfifgiopdbdeoaaDoor.Lite
open Go
attribute [local simp] WL_of WL_nil WL_blk WL_skip WL_label WL_exit WL_goto WL_seq WL_block WL_cond WL_reg WL_ret WJ_nil WJ_ex WJ_gt WJ_rt WJ_exb WJ_gtb WJ_rtb WLO_nil WLO_call WO_nw stepN WO_mv WO_pick WO_new WO_box WO_ld WO_ldn WO_st WO_off WO_ixa WO_ixs WO_fld WO_fldn WO_ixv WO_ixvn WO_ixb WO_bin WO_eqb WO_isn WO_eqs WO_not WO_conv WO_mkf WO_bld WO_bls WO_sla WO_sls WO_sl0 WO_len WO_app WO_mnx WO_ext WO_nilc wants_none wants_some wantv_b wantv_t WLV_true WLV_false WLC_false WLB_true WLB_false evX_t evX_c evXs_nil evXs_cons look_put look_putN look_cons look_arg0 look_arg stepK binOpA intOp strOp evRes oneOf outs gc toDV AV.dat? I Bo av_s List.map List.append_nil getO putO AV.cellsOf bne WL_dreg WLP_nil WLP_call WP_mv WP_pick WP_new WP_box WP_ld WP_ldn WP_off WP_ixa WP_ixs WP_fld WP_fldn WP_ixv WP_ixvn WP_ixb WP_bin WP_eqb WP_isn WP_eqs WP_not WP_conv WP_mkf WP_bld WP_bls WP_sla WP_sls WP_sl0 WP_len WP_app WP_mnx WP_ext WP_nilc WLPV_true WLPV_false WLPC_false WLC_tells WLPC_tells padH onNm onEx List.getElem?_cons_zero List.getElem?_cons_succ List.getElem?_nil restrict AV.lows lay AV.isCell lowObj AObj.lows WJ_nm AV.lows.go WL_scope onGt_rt onGt_nm onGt_ex WL_sreg WP_st preSt eraseB List.set_cons_zero List.set_cons_succ frz cutR cutAs cutA WL_sregT cutB cutBs

noncomputable def drop_F := orcOf (fun p : List Int × Int => [SI p.1, I p.2]) (fun p => p.1.length ≤ 4294967296) (fun p => [SI (p.1.filter (· != p.2))])
theorem rows_at {H : Heap} {l0 : Nat} (c : List Int) {n m : Nat} (hg : getO H l0 = some (.cells (csI c))) (hn : n ≤ c.length) : rows? H 1 (.slr l0 0 n 1 m) = some (rowsI (c.take n)) := by
  have h1 : (csI c).take n = csI (c.take n) := by simp [csI, List.map_take]
  have h2 : dats? (csI (c.take n)) = some ((c.take n).map (.int .i64)) := dats_ints _
  have h3 := chunk_rowsI (c.take n)
  have h4 : (c.take n).length = n := by simp; omega
  rw [h4] at h3
  simp only [rows?, hg, if_true, Nat.zero_add, Nat.mul_one, csI_len, hn, List.drop_zero, h1, h2, Option.map_some, h3]
theorem list_Drop : Pure Tryd.prog 94 drop_F := by
  refine con (T := tbl []) (tbl_ok (by simp)) rfl rfl fun ⟨l, d⟩ hl => ⟨rfl, ?_⟩
  simp [cf94, -getElem?_pos, SI]
  rw [WLC_true]
  by_cases hne : l = []
  · subst hne
    refine clone_nil rfl (by simp [lowObj, AObj.lows, AV.lows]) rfl rfl ?_
    simp [-getElem?_pos]
    refine WLC_fn (cf := cf125) rfl rfl rfl ?_
    simp [cf125, afterC, -getElem?_pos]
    refine WLC_fn (cf := cf136) rfl rfl rfl ?_
    simp [cf136, afterC, -getElem?_pos, stepK.lenA]
    rw [WL_code, W_loop]
    simp [-getElem?_pos, afterC]
    rfl
  · refine clone_ne hne hl rfl rfl ?_
    have hfc : flatC (rowsI l) = csI l := flatC_rowsI l
    have hl2 : l.length < 9223372036854775807 := by have : l.length ≤ 4294967296 := hl; omega
    have hlow := csI_lows 3 0 l
    rw [hfc]
    simp [-getElem?_pos]
    refine WLC_fn (cf := cf125) rfl rfl rfl ?_
    simp [cf125, afterC, -getElem?_pos]
    refine WLC_fn (cf := cf136) rfl rfl rfl ?_
    simp [cf136, afterC, -getElem?_pos, stepK.lenA]
    rw [WL_code]
    refine idxf_loop d l hl2 l.length 0 (by omega) (by omega) _ ?_ ?_ ?_ ?_ _ (fun hno env' => ?_) (fun j hj hjd hb env' h4 => ?_)
    all_goals (try (simp [-getElem?_pos]; done))
    · simp [afterC, -getElem?_pos, hpC, hlow]
      rw [rows_at l rfl (Nat.le_refl _), List.take_length]
      have : l.filter (fun x => !x == d) = l := List.filter_eq_self.2 fun x hx => by
        obtain ⟨j, hj⟩ := List.getElem?_of_mem hx
        simpa using hno j x (Nat.zero_le _) hj
      rw [this]
    · have hneg : ((j : Int) == -1) = false := by rw [beq_eq_false_iff_ne]; omega
      have hjl : j < l.length := (List.getElem?_eq_some_iff.1 hjd).1
      have hw := wrapN1 j (by omega)
      have hspl : l = l.take j ++ [d] ++ l.drop (j + 1) := by
        have := (List.getElem?_eq_some_iff.1 hjd).2
        rw [← this, List.append_assoc, List.singleton_append, List.getElem_cons_drop, List.take_append_drop]
      have htk : (l.take j).length = j := by simp; omega
      simp [afterC, -getElem?_pos, hpC, hlow, h4, hneg, hw, -Int.natCast_add]
      rw [WL_code]
      show W (tbl []) ⟨[], 0⟩ LDl _ ⟨hpC d l, []⟩ _
      rw [show hpC d l = hpC d (l.take j ++ [d] ++ l.drop (j + 1)) from by rw [← hspl]]
      refine dl_loop d l.length hl2 (l.drop (j + 1)) (l.take j) [d] (by simp) ?_ _ ?_ ?_ ?_ ?_ _ (fun mid' h2 h3 env' g0 g5 => ?_)
      · simp; omega
      · simp [-getElem?_pos]
      · simp [-getElem?_pos]
      · simp [-getElem?_pos, htk]
      · simp [-getElem?_pos, htk, -Int.natCast_add]
      · have hflt : l.filter (fun x => !x == d) = l.take j ++ (l.drop (j + 1)).filter (fun x => x != d) := by
          conv => lhs; rw [hspl]
          have t1 : (l.take j).filter (fun x => !x == d) = l.take j := List.filter_eq_self.2 fun x hx => by
            obtain ⟨i, hi⟩ := List.getElem?_of_mem hx
            have hij : i < j := by have := (List.getElem?_eq_some_iff.1 hi).1; omega
            rw [List.getElem?_take_of_lt hij] at hi
            simpa using hb i x (Nat.zero_le _) hij hi
          rw [List.filter_append, List.filter_append, t1]
          simp [bne]
        rw [hflt]
        obtain ⟨K, hK⟩ : ∃ K, K = l.take j ++ (l.drop (j + 1)).filter (fun x => x != d) := ⟨_, rfl⟩
        rw [← hK] at h3 g5 ⊢
        have hm : 0 < mid'.length := List.length_pos_iff.2 h2
        have hp : K.length < l.length := by omega
        have hZ : flatC (List.replicate (l.length - K.length) [Dat.int .i64 0]) = csI (List.replicate (l.length - K.length) 0) := by
          have := flatC_rowsI (List.replicate (l.length - K.length) 0)
          simpa [rowsI, csI] using this
        have hlay : (csI (K ++ mid')).take K.length ++ (csI (List.replicate (l.length - K.length) 0) ++ (csI (K ++ mid')).drop l.length) = csI (K ++ List.replicate (l.length - K.length) 0) := by
          rw [List.drop_eq_nil_of_le (by simp [csI]; omega)]
          simp [csI, List.take_append]
        have hcl : (csI (K ++ mid')).length = l.length := by rw [csI_len]; simp; omega
        have hzl : (csI (List.replicate (l.length - K.length) 0)).length = l.length - K.length := by rw [csI_len]; simp
        have hin : K.length + (l.length - K.length) ≤ l.length := by omega
        have hlow2 := csI_lows 3 0 (K ++ List.replicate (l.length - K.length) 0)
        have hle : K.length ≤ l.length := by omega
        have hne2 : ¬ K.length = l.length := by omega
        clear hK hflt hspl
        by_cases h0 : K = []
        · subst h0
          simp at hZ hlay hcl hzl hlow2 hp
          have hp0 : ¬ (0 = l.length) := by omega
          simp [afterC, -getElem?_pos, hpC, g0, g5, bound?, sliceA, stepK.lenA, hp0, hZ, hlay, hcl, hzl]
          rfl
        · have hK0 : ¬ (0 = K.length) := by have := List.length_pos_iff.2 h0; omega
          simp [afterC, -getElem?_pos, hpC, g0, g5, bound?, sliceA, stepK.lenA, hle, hne2, hcl, hin, hZ, hzl, hK0]
          rw [hlay, rows_at (K ++ List.replicate (l.length - K.length) 0) rfl (by simp), List.take_left]
noncomputable abbrev list_Drop_F := drop_F
end Go.Proofs.YtfifgiopdbdeoaaDoor.Lite
namespace Go.Proofs.YtfifgiopdbdeoaaDoor.Lite
open Go
attribute [local simp] WL_of WL_nil WL_blk WL_skip WL_label WL_exit WL_goto WL_seq WL_block WL_cond WL_reg WL_ret WJ_nil WJ_ex WJ_gt WJ_rt WJ_exb WJ_gtb WJ_rtb WLO_nil WLO_call WO_nw stepN WO_mv WO_pick WO_new WO_box WO_ld WO_ldn WO_st WO_off WO_ixa WO_ixs WO_fld WO_fldn WO_ixv WO_ixvn WO_ixb WO_bin WO_eqb WO_isn WO_eqs WO_not WO_conv WO_mkf WO_bld WO_bls WO_sla WO_sls WO_sl0 WO_len WO_app WO_mnx WO_ext WO_nilc wants_none wants_some wantv_b wantv_t WLV_true WLV_false WLC_false WLB_true WLB_false evX_t evX_c evXs_nil evXs_cons look_put look_putN look_cons look_arg0 look_arg stepK binOpA intOp strOp evRes oneOf outs gc toDV AV.dat? I Bo av_s List.map List.append_nil getO putO AV.cellsOf bne WL_dreg WLP_nil WLP_call WP_mv WP_pick WP_new WP_box WP_ld WP_ldn WP_off WP_ixa WP_ixs WP_fld WP_fldn WP_ixv WP_ixvn WP_ixb WP_bin WP_eqb WP_isn WP_eqs WP_not WP_conv WP_mkf WP_bld WP_bls WP_sla WP_sls WP_sl0 WP_len WP_app WP_mnx WP_ext WP_nilc WLPV_true WLPV_false WLPC_false WLC_tells WLPC_tells padH onNm onEx List.getElem?_cons_zero List.getElem?_cons_succ List.getElem?_nil restrict AV.lows lay AV.isCell lowObj AObj.lows WJ_nm AV.lows.go WL_scope onGt_rt onGt_nm onGt_ex WL_sreg WP_st preSt eraseB List.set_cons_zero List.set_cons_succ frz cutR cutAs cutA WL_sregT cutB cutBs

/-- a slice of ints that was grown one by one -/
def gV : List Int → AV
  | [] => .nils
  | l => .ws (rowsI l) 1
def gH : List Int → Heap
  | [] => []
  | l => [some (.tok 1 1), some (.tok 1 l.length)]
def LDr : CCode := (.loop [0, 1, 5, 6] (.seq (.seq (.reg (⟨(some 7), .mv (.t 6), none⟩ ::
    ⟨(some 8), .mv (.t 0), none⟩ ::
    ⟨(some 9), .len false (.t 8), none⟩ ::
    ⟨(some 10), .bin .lss (.t 7) (.t 9), none⟩ ::
    []))
  (.cond (.t 10) .skip (.exit 0)))
  (.seq (.block 1 (.seq (.reg (⟨(some 13), .mv (.t 0), none⟩ ::
    ⟨(some 14), .mv (.t 6), none⟩ ::
    ⟨(some 15), .ixs 1 (.t 13) (.t 14), none⟩ ::
    ⟨(some 16), .ld (.t 15), none⟩ ::
    ⟨(some 17), .mv (.t 1), none⟩ ::
    ⟨(some 18), .bin .neq (.t 16) (.t 17), none⟩ ::
    []))
  (.cond (.t 18) (.reg (⟨(some 19), .mv (.t 5), none⟩ ::
    ⟨(some 20), .mv (.t 0), none⟩ ::
    ⟨(some 21), .mv (.t 6), none⟩ ::
    ⟨(some 22), .ixs 1 (.t 20) (.t 21), none⟩ ::
    ⟨(some 23), .ld (.t 22), none⟩ ::
    ⟨(some 24), .bls [.d (.int .i64 0)] 1 1 [(0, 1, (.t 23))], none⟩ ::
    ⟨(some 25), .app 1 (.t 19) (.t 24), none⟩ ::
    ⟨(some 5), .mv (.t 25), none⟩ ::
    [])) .skip)))
  (.reg (⟨(some 11), .mv (.t 6), none⟩ ::
    ⟨(some 12), .bin .add (.t 11) (.c (.d (.int .i64 1))), none⟩ ::
    ⟨(some 6), .mv (.t 12), none⟩ ::
    [])))))
theorem LDr_eq : LDr = .loop [0, 1, 5, 6] (.seq (.seq (.reg (⟨(some 7), .mv (.t 6), none⟩ ::
    ⟨(some 8), .mv (.t 0), none⟩ ::
    ⟨(some 9), .len false (.t 8), none⟩ ::
    ⟨(some 10), .bin .lss (.t 7) (.t 9), none⟩ ::
    []))
  (.cond (.t 10) .skip (.exit 0)))
  (.seq (.block 1 (.seq (.reg (⟨(some 13), .mv (.t 0), none⟩ ::
    ⟨(some 14), .mv (.t 6), none⟩ ::
    ⟨(some 15), .ixs 1 (.t 13) (.t 14), none⟩ ::
    ⟨(some 16), .ld (.t 15), none⟩ ::
    ⟨(some 17), .mv (.t 1), none⟩ ::
    ⟨(some 18), .bin .neq (.t 16) (.t 17), none⟩ ::
    []))
  (.cond (.t 18) (.reg (⟨(some 19), .mv (.t 5), none⟩ ::
    ⟨(some 20), .mv (.t 0), none⟩ ::
    ⟨(some 21), .mv (.t 6), none⟩ ::
    ⟨(some 22), .ixs 1 (.t 20) (.t 21), none⟩ ::
    ⟨(some 23), .ld (.t 22), none⟩ ::
    ⟨(some 24), .bls [.d (.int .i64 0)] 1 1 [(0, 1, (.t 23))], none⟩ ::
    ⟨(some 25), .app 1 (.t 19) (.t 24), none⟩ ::
    ⟨(some 5), .mv (.t 25), none⟩ ::
    [])) .skip)))
  (.reg (⟨(some 11), .mv (.t 6), none⟩ ::
    ⟨(some 12), .bin .add (.t 11) (.c (.d (.int .i64 1))), none⟩ ::
    ⟨(some 6), .mv (.t 12), none⟩ ::
    [])))) := rfl
theorem refDrop_loop (d : Int) (l : List Int) (hl : l.length ≤ 4294967296) : ∀ (k i : Nat), l.length - i = k → i ≤ l.length → ∀ (out : List Int), out.length ≤ i → ∀ (env : Env), look env 0 = some (vsI l) → look env 1 = some (.d (.int .i64 d)) → look env 5 = some (gV out) → look env 6 = some (.d (.int .i64 i)) →
    ∀ (Q : Ex → Env → St → Prop), (∀ env', look env' 5 = some (gV (out ++ (l.drop i).filter (· != d))) → Q (.ex 0) env' ⟨gH (out ++ (l.drop i).filter (· != d)), []⟩) → W (tbl []) ⟨[], 0⟩ LDr env ⟨gH out, []⟩ Q := by
  intro k
  induction k with
  | zero =>
    intro i hk hi out ho env h0 h1 h5 h6 Q hQ
    have hlt : ¬ i < l.length := by omega
    rw [List.drop_eq_nil_of_le (by omega)] at hQ
    rw [LDr_eq, W_loop]
    simp [-getElem?_pos, h0, h1, h5, h6, stepK.lenA, rowsI_length, hlt]
    simpa using hQ _ (by simp [-getElem?_pos, h5])
  | succ k ih =>
    intro i hk hi out ho env h0 h1 h5 h6 Q hQ
    have hlt : i < l.length := by omega
    obtain ⟨n, hn⟩ : ∃ n, l[i]? = some n := ⟨_, List.getElem?_eq_getElem hlt⟩
    have hd : l.drop i = n :: l.drop (i + 1) := by rw [List.drop_eq_getElem_cons hlt]; congr 1; exact (List.getElem?_eq_some_iff.1 hn).2
    have hw := wrapN1 i (by omega)
    have hcap : out.length + 1 ≤ LIM := by unfold LIM; omega
    rw [hd] at hQ
    have fin : ∀ out', out'.length ≤ i + 1 → out' ++ (l.drop (i + 1)).filter (· != d) = out ++ (n :: l.drop (i + 1)).filter (· != d) → ∀ env', look env' 0 = some (vsI l) → look env' 1 = some (.d (.int .i64 d)) → look env' 5 = some (gV out') → look env' 6 = some (.d (.int .i64 ((i + 1 : Nat) : Int))) → W (tbl []) ⟨[], 0⟩ LDr env' ⟨gH out', []⟩ Q := by
      intro out' h1' he env' a0 a1 a5 a6
      exact ih (i + 1) (by omega) (by omega) out' h1' env' a0 a1 a5 a6 Q (by rw [he]; exact hQ)
    by_cases e : n = d
    · have e2 : (n == d) = true := by simp [e]
      rw [LDr_eq, W_loop]
      have hfin := fin out (by omega) (by rw [List.filter_cons_of_neg (by simp [e])])
      cases out with
      | nil =>
        simp only [gV, gH] at h5 hfin ⊢
        simp [-getElem?_pos, h0, h1, h5, h6, stepK.lenA, rowsI_length, hlt, rowsI_get, hn, e2, -Int.natCast_add]
        refine (WL_of (c := LDr)).1 (hfin _ ?_ ?_ ?_ ?_) <;> simp [-getElem?_pos, h0, h1, h5, hw, -Int.natCast_add]
      | cons a out =>
        simp only [gV, gH] at h5 hfin ⊢
        simp [-getElem?_pos, h0, h1, h5, h6, stepK.lenA, rowsI_length, hlt, rowsI_get, hn, e2, -Int.natCast_add]
        refine (WL_of (c := LDr)).1 (hfin _ ?_ ?_ ?_ ?_) <;> simp [-getElem?_pos, h0, h1, h5, hw, -Int.natCast_add]
    · have e2 : (n == d) = false := by simpa using e
      rw [LDr_eq, W_loop]
      have hfin := fin (out ++ [n]) (by simp; omega) (by rw [List.filter_cons_of_pos (by simpa using e)]; simp)
      cases out with
      | nil =>
        simp only [gV, gH, List.nil_append] at h5 hfin ⊢
        have hl1 : 1 ≤ LIM := by unfold LIM; omega
        have hr1 : rowsOk 1 [[Dat.int .i64 n]] = true := rfl
        simp [-getElem?_pos, h0, h1, h5, h6, stepK.lenA, rowsI_length, hlt, rowsI_get, hn, e2, fillA, dats?, chunk, rows?, hr1, hl1, -Int.natCast_add]
        refine (WL_of (c := LDr)).1 (hfin _ ?_ ?_ ?_ ?_) <;> simp [-getElem?_pos, h0, h1, h5, hw, rowsI, -Int.natCast_add]
      | cons a out =>
        simp only [gV, gH, List.cons_append] at h5 hfin ⊢
        have hr1 : rowsOk 1 [[Dat.int .i64 n]] = true := rfl
        have hr2 := rowsI_ok (a :: out)
        have hcap2 : out.length + 1 + 1 ≤ LIM := by simpa using hcap
        have hl9 : (a :: (out ++ [n])).length = out.length + 1 + 1 := by simp
        rw [hl9] at hfin
        have hap : rowsI (a :: out) ++ [[Dat.int .i64 n]] = rowsI (a :: (out ++ [n])) := by simp [rowsI]
        simp [-getElem?_pos, h0, h1, h5, h6, stepK.lenA, rowsI_length, hlt, rowsI_get, hn, e2, fillA, dats?, chunk, rows?, hr1, hr2, stepK.getTok, hcap2, hap, -Int.natCast_add]
        refine (WL_of (c := LDr)).1 (hfin _ ?_ ?_ ?_ ?_) <;> simp [-getElem?_pos, h0, h1, h5, hw, -Int.natCast_add]
theorem garlandref12_Drop : Pure Tryd.prog 60 drop_F := by
  refine con (T := tbl []) (tbl_ok (by simp)) rfl rfl fun ⟨l, d⟩ hl => ⟨rfl, ?_⟩
  simp [cf60, -getElem?_pos, SI]
  rw [WL_code]
  refine refDrop_loop d l hl l.length 0 (by omega) (by omega) [] (by simp) _ ?_ ?_ ?_ ?_ _ (fun env' h5 => ?_)
  all_goals (try (simp [-getElem?_pos, gV]; done))
  have hb : l.filter (· != d) = l.filter (fun x => !x == d) := rfl
  simp only [List.nil_append, List.drop_zero, hb] at h5 ⊢
  cases hr : l.filter (fun x => !x == d) with
  | nil =>
    rw [hr] at h5
    simp [-getElem?_pos, h5, gV]
    try rfl
  | cons a r =>
    rw [hr] at h5
    simp [-getElem?_pos, h5, gV]
    try rfl
noncomputable abbrev garlandref12_Drop_F := drop_F
end Go.Proofs.YtfifgiopdbdeoaaDoor.Lite
namespace Go.Proofs.YtfifgiopdbdeoaaDoor.Lite
open Go
attribute [local simp] WL_of WL_nil WL_blk WL_skip WL_label WL_exit WL_goto WL_seq WL_block WL_cond WL_reg WL_ret WJ_nil WJ_ex WJ_gt WJ_rt WJ_exb WJ_gtb WJ_rtb WLO_nil WLO_call WO_nw stepN WO_mv WO_pick WO_new WO_box WO_ld WO_ldn WO_st WO_off WO_ixa WO_ixs WO_fld WO_fldn WO_ixv WO_ixvn WO_ixb WO_bin WO_eqb WO_isn WO_eqs WO_not WO_conv WO_mkf WO_bld WO_bls WO_sla WO_sls WO_sl0 WO_len WO_app WO_mnx WO_ext WO_nilc wants_none wants_some wantv_b wantv_t WLV_true WLV_false WLC_false WLB_true WLB_false evX_t evX_c evXs_nil evXs_cons look_put look_putN look_cons look_arg0 look_arg stepK binOpA intOp strOp evRes oneOf outs gc toDV AV.dat? I Bo av_s List.map List.append_nil getO putO AV.cellsOf bne WL_dreg WLP_nil WLP_call WP_mv WP_pick WP_new WP_box WP_ld WP_ldn WP_off WP_ixa WP_ixs WP_fld WP_fldn WP_ixv WP_ixvn WP_ixb WP_bin WP_eqb WP_isn WP_eqs WP_not WP_conv WP_mkf WP_bld WP_bls WP_sla WP_sls WP_sl0 WP_len WP_app WP_mnx WP_ext WP_nilc WLPV_true WLPV_false WLPC_false WLC_tells WLPC_tells padH onNm onEx List.getElem?_cons_zero List.getElem?_cons_succ List.getElem?_nil restrict AV.lows lay AV.isCell lowObj AObj.lows WJ_nm AV.lows.go WL_scope onGt_rt onGt_nm onGt_ex WL_sreg WP_st preSt eraseB List.set_cons_zero List.set_cons_succ frz cutR cutAs cutA WL_sregT cutB cutBs

def mkL (x : Int) : Int → Nat → List Int → List Int
  | _, 0, _ => []
  | _, _ + 1, [] => []
  | a, k + 1, n :: l => bif behind x a n then n :: mkL x n k l else []
def makeL (x s : Int) (l : List Int) : List Int := mkL x x 3 (s :: l)
noncomputable def make_F := orcOf (fun p : Int × Int × List Int => [I p.1, I p.2.1, SI p.2.2]) (fun p => p.2.2.length ≤ 4294967290) (fun p => [SI (makeL p.1 p.2.1 p.2.2)])
noncomputable def TMK : Tbl := tbl [(56, garlandref12_place_F), (57, garlandref03_Place_F), (58, garlandref12_farther_F)]
theorem TMK_ok : TblOK Tryd.prog TMK := tbl_ok (by
  simp only [List.mem_cons, List.not_mem_nil, or_false]
  rintro p (rfl | rfl | rfl)
  · exact garlandref12_place
  · exact garlandref03_Place
  · exact garlandref12_farther)
instance : Has TMK 56 garlandref12_place_F := ⟨rfl⟩
instance : Has TMK 57 garlandref03_Place_F := ⟨rfl⟩
instance : Has TMK 58 garlandref12_farther_F := ⟨rfl⟩

def LMk : CCode := (.loop [0, 2, 7, 8] (.seq (.seq (.reg (⟨(some 20), .mv (.t 8), none⟩ ::
    ⟨(some 21), .mv (.t 2), none⟩ ::
    ⟨(some 22), .len false (.t 21), none⟩ ::
    ⟨(some 23), .bin .lss (.t 20) (.t 22), none⟩ ::
    ⟨(some 24), .mv (.t 23), none⟩ ::
    ⟨(some 25), .mv (.t 7), (some (24, true))⟩ ::
    ⟨(some 26), .len false (.t 25), (some (24, true))⟩ ::
    ⟨(some 27), .bin .lss (.t 26) (.c (.d (.int .i64 3))), (some (24, true))⟩ ::
    ⟨(some 28), .pick (.t 24) (.t 27) (.c (.d (.bool false))), none⟩ ::
    []))
  (.cond (.t 28) .skip (.exit 0)))
  (.seq (.block 1 (.seq (.seq (.dreg (⟨(some 31), .mv (.t 2), none⟩ ::
    ⟨(some 32), .mv (.t 8), none⟩ ::
    ⟨(some 33), .ixs 1 (.t 31) (.t 32), none⟩ ::
    ⟨(some 34), .ld (.t 33), none⟩ ::
    ⟨(some 35), .call (.c (.fn 56 [])) [(.t 34)], none⟩ ::
    ⟨(some 36), .not (.t 35), none⟩ ::
    ⟨(some 37), .mv (.t 36), none⟩ ::
    ⟨(some 38), .mv (.t 0), (some (37, false))⟩ ::
    ⟨(some 39), .mv (.t 7), (some (37, false))⟩ ::
    ⟨(some 40), .mv (.t 8), (some (37, false))⟩ ::
    ⟨(some 41), .ixs 1 (.t 39) (.t 40), (some (37, false))⟩ ::
    ⟨(some 42), .ld (.t 41), (some (37, false))⟩ ::
    ⟨(some 43), .mv (.t 2), (some (37, false))⟩ ::
    ⟨(some 44), .mv (.t 8), (some (37, false))⟩ ::
    ⟨(some 45), .ixs 1 (.t 43) (.t 44), (some (37, false))⟩ ::
    ⟨(some 46), .ld (.t 45), (some (37, false))⟩ ::
    []) (⟨(some 47), .call (.c (.fn 58 [])) [(.t 38), (.t 42), (.t 46)], (some (37, false))⟩ ::
    ⟨(some 48), .not (.t 47), (some (37, false))⟩ ::
    ⟨(some 49), .pick (.t 37) (.c (.d (.bool true))) (.t 48), none⟩ ::
    []))
  (.cond (.t 49) (.seq (.reg (⟨(some 50), .mv (.t 7), none⟩ ::
    ⟨(some 6), .mv (.t 50), none⟩ ::
    []))
  .ret) .skip))
  (.reg (⟨(some 51), .mv (.t 7), none⟩ ::
    ⟨(some 52), .mv (.t 2), none⟩ ::
    ⟨(some 53), .mv (.t 8), none⟩ ::
    ⟨(some 54), .ixs 1 (.t 52) (.t 53), none⟩ ::
    ⟨(some 55), .ld (.t 54), none⟩ ::
    ⟨(some 56), .bls [.d (.int .i64 0)] 1 1 [(0, 1, (.t 55))], none⟩ ::
    ⟨(some 57), .app 1 (.t 51) (.t 56), none⟩ ::
    ⟨(some 7), .mv (.t 57), none⟩ ::
    []))))
  (.reg (⟨(some 29), .mv (.t 8), none⟩ ::
    ⟨(some 30), .bin .add (.t 29) (.c (.d (.int .i64 1))), none⟩ ::
    ⟨(some 8), .mv (.t 30), none⟩ ::
    [])))))
theorem LMk_eq : LMk = .loop [0, 2, 7, 8] (.seq (.seq (.reg (⟨(some 20), .mv (.t 8), none⟩ ::
    ⟨(some 21), .mv (.t 2), none⟩ ::
    ⟨(some 22), .len false (.t 21), none⟩ ::
    ⟨(some 23), .bin .lss (.t 20) (.t 22), none⟩ ::
    ⟨(some 24), .mv (.t 23), none⟩ ::
    ⟨(some 25), .mv (.t 7), (some (24, true))⟩ ::
    ⟨(some 26), .len false (.t 25), (some (24, true))⟩ ::
    ⟨(some 27), .bin .lss (.t 26) (.c (.d (.int .i64 3))), (some (24, true))⟩ ::
    ⟨(some 28), .pick (.t 24) (.t 27) (.c (.d (.bool false))), none⟩ ::
    []))
  (.cond (.t 28) .skip (.exit 0)))
  (.seq (.block 1 (.seq (.seq (.dreg (⟨(some 31), .mv (.t 2), none⟩ ::
    ⟨(some 32), .mv (.t 8), none⟩ ::
    ⟨(some 33), .ixs 1 (.t 31) (.t 32), none⟩ ::
    ⟨(some 34), .ld (.t 33), none⟩ ::
    ⟨(some 35), .call (.c (.fn 56 [])) [(.t 34)], none⟩ ::
    ⟨(some 36), .not (.t 35), none⟩ ::
    ⟨(some 37), .mv (.t 36), none⟩ ::
    ⟨(some 38), .mv (.t 0), (some (37, false))⟩ ::
    ⟨(some 39), .mv (.t 7), (some (37, false))⟩ ::
    ⟨(some 40), .mv (.t 8), (some (37, false))⟩ ::
    ⟨(some 41), .ixs 1 (.t 39) (.t 40), (some (37, false))⟩ ::
    ⟨(some 42), .ld (.t 41), (some (37, false))⟩ ::
    ⟨(some 43), .mv (.t 2), (some (37, false))⟩ ::
    ⟨(some 44), .mv (.t 8), (some (37, false))⟩ ::
    ⟨(some 45), .ixs 1 (.t 43) (.t 44), (some (37, false))⟩ ::
    ⟨(some 46), .ld (.t 45), (some (37, false))⟩ ::
    []) (⟨(some 47), .call (.c (.fn 58 [])) [(.t 38), (.t 42), (.t 46)], (some (37, false))⟩ ::
    ⟨(some 48), .not (.t 47), (some (37, false))⟩ ::
    ⟨(some 49), .pick (.t 37) (.c (.d (.bool true))) (.t 48), none⟩ ::
    []))
  (.cond (.t 49) (.seq (.reg (⟨(some 50), .mv (.t 7), none⟩ ::
    ⟨(some 6), .mv (.t 50), none⟩ ::
    []))
  .ret) .skip))
  (.reg (⟨(some 51), .mv (.t 7), none⟩ ::
    ⟨(some 52), .mv (.t 2), none⟩ ::
    ⟨(some 53), .mv (.t 8), none⟩ ::
    ⟨(some 54), .ixs 1 (.t 52) (.t 53), none⟩ ::
    ⟨(some 55), .ld (.t 54), none⟩ ::
    ⟨(some 56), .bls [.d (.int .i64 0)] 1 1 [(0, 1, (.t 55))], none⟩ ::
    ⟨(some 57), .app 1 (.t 51) (.t 56), none⟩ ::
    ⟨(some 7), .mv (.t 57), none⟩ ::
    []))))
  (.reg (⟨(some 29), .mv (.t 8), none⟩ ::
    ⟨(some 30), .bin .add (.t 29) (.c (.d (.int .i64 1))), none⟩ ::
    ⟨(some 8), .mv (.t 30), none⟩ ::
    [])))) := rfl
theorem mk_loop (x : Int) (l : List Int) (hl : l.length ≤ 4294967290) : ∀ (k i : Nat), l.length - i = k → i ≤ l.length → ∀ (out : List Int) (a : Int), (out ++ [a]).length = i + 1 → ∀ (env : Env), look env 0 = some (.d (.int .i64 x)) → look env 2 = some (vsI l) → look env 7 = some (.ws (rowsI (out ++ [a])) 0) → look env 8 = some (.d (.int .i64 i)) →
    ∀ (Q : Ex → Env → St → Prop), (∀ env' h', look env' 7 = some (.ws (rowsI (out ++ [a] ++ mkL x a (3 - (i + 1)) (l.drop i))) 0) → Q (.ex 0) env' ⟨h', []⟩) → (∀ env' h', look env' 6 = some (.ws (rowsI (out ++ [a] ++ mkL x a (3 - (i + 1)) (l.drop i))) 0) → Q .rt env' ⟨h', []⟩) →
    W TMK ⟨[], 0⟩ LMk env ⟨[some (.tok 1 (i + 1))], []⟩ Q := by
  intro k
  induction k with
  | zero =>
    intro i hk hi out a ho env h0 h2 h7 h8 Q hQ1 hQ2
    have hlt : ¬ i < l.length := by omega
    rw [List.drop_eq_nil_of_le (by omega)] at hQ1
    have hz : mkL x a (3 - (i + 1)) [] = [] := by cases 3 - (i + 1) <;> rfl
    rw [hz, List.append_nil] at hQ1
    rw [LMk_eq, W_loop]
    simp [-getElem?_pos, h0, h2, h7, h8, stepK.lenA, rowsI_length, hlt]
    exact hQ1 _ _ (by simp [-getElem?_pos, h7])
  | succ k ih =>
    intro i hk hi out a ho env h0 h2 h7 h8 Q hQ1 hQ2
    have hlt : i < l.length := by omega
    obtain ⟨n, hn⟩ : ∃ n, l[i]? = some n := ⟨_, List.getElem?_eq_getElem hlt⟩
    have hd : l.drop i = n :: l.drop (i + 1) := by rw [List.drop_eq_getElem_cons hlt]; congr 1; exact (List.getElem?_eq_some_iff.1 hn).2
    have hw := wrapN1 i (by omega)
    have hga : (out ++ [a])[i]? = some a := by simp at ho; simp [← ho]
    have hlen : (rowsI (out ++ [a])).length = i + 1 := by rw [rowsI_length]; exact ho
    have hrok := rowsI_ok (out ++ [a])
    have hcap : i + 1 + 1 ≤ LIM := by unfold LIM; omega
    have hr1 : rowsOk 1 [[Dat.int .i64 n]] = true := rfl
    have hap : rowsI (out ++ [a]) ++ [[Dat.int .i64 n]] = rowsI (out ++ [a] ++ [n]) := by simp [rowsI]
    by_cases h3 : i + 1 < 3
    · obtain ⟨m, hm⟩ : ∃ m, 3 - (i + 1) = m + 1 := ⟨3 - (i + 1) - 1, by omega⟩
      have hm2 : 3 - (i + 1 + 1) = m := by omega
      have h3i : (((i + 1 : Nat) : Int) < 3) := by omega
      rw [hm, hd] at hQ1 hQ2
      rw [LMk_eq, W_loop]
      cases hb : behind x a n with
      | true =>
        have hb1 : isPlace n = true := by unfold behind at hb; simp at hb; exact hb.1
        have hb2 : farther x a n = true := by unfold behind at hb; unfold farther; simp at hb; simpa using hb.2
        simp only [mkL, hb, cond_true] at hQ1 hQ2
        simp [-getElem?_pos, h0, h2, h7, h8, stepK.lenA, rowsI_length, hlt, rowsI_get, hn, hga, ho, hlen, h3i, hb1, hb2, fillA, dats?, chunk, rows?, hr1, hrok, stepK.getTok, hcap, hap, -Int.natCast_add]
        refine (WL_of (c := LMk)).1 (ih (i + 1) (by omega) (by omega) (out ++ [a]) n (by rw [List.length_append, ho]; rfl) _ ?_ ?_ ?_ ?_ Q (fun env' h' h9 => hQ1 env' h' ?_) (fun env' h' h9 => hQ2 env' h' ?_))
        · simp [-getElem?_pos]
        · simp [-getElem?_pos]
        · simp [-getElem?_pos]
        · simp [-getElem?_pos, hw, -Int.natCast_add]
        · rw [hm2] at h9; rw [h9]; simp
        · rw [hm2] at h9; rw [h9]; simp
      | false =>
        simp only [mkL, hb, cond_false, List.append_nil] at hQ1 hQ2
        cases hb1 : isPlace n with
        | false =>
          simp [-getElem?_pos, h0, h2, h7, h8, stepK.lenA, rowsI_length, hlt, rowsI_get, hn, hga, ho, hlen, h3i, hb1, -Int.natCast_add]
          exact hQ2 _ _ (by simp [-getElem?_pos])
        | true =>
          have hb2 : farther x a n = false := by unfold behind at hb; unfold farther; rw [hb1] at hb; simpa using hb
          simp [-getElem?_pos, h0, h2, h7, h8, stepK.lenA, rowsI_length, hlt, rowsI_get, hn, hga, ho, hlen, h3i, hb1, hb2, -Int.natCast_add]
          exact hQ2 _ _ (by simp [-getElem?_pos])
    · have h3i : ¬ (((i + 1 : Nat) : Int) < 3) := by omega
      have hm : 3 - (i + 1) = 0 := by omega
      rw [hm] at hQ1 hQ2
      simp only [mkL, List.append_nil] at hQ1 hQ2
      rw [LMk_eq, W_loop]
      simp [-getElem?_pos, h0, h2, h7, h8, stepK.lenA, rowsI_length, hlt, hlen, ho, h3i, -Int.natCast_add]
      exact hQ1 _ _ (by simp [-getElem?_pos, h7])
theorem garlandref12_Make : Pure Tryd.prog 48 make_F := by
  refine con TMK_ok rfl rfl fun ⟨x, s, l⟩ hl => ⟨rfl, ?_⟩
  have hr1 : rowsOk 1 [[Dat.int .i64 s]] = true := rfl
  have hl1 : 1 ≤ LIM := by unfold LIM; omega
  cases h1 : isPlace s with
  | false =>
    have hm : makeL x s l = [] := by simp [makeL, mkL, behind, h1]
    simp [cf48, -getElem?_pos, SI, h1, hm]
    try rfl
  | true =>
    cases h2 : (place x == s) with
    | true =>
      have hb : behind x x s = false := by
        have : place x = s := by simpa using h2
        rw [behind_first, this]; simp
      have hm : makeL x s l = [] := by simp [makeL, mkL, hb]
      simp [cf48, -getElem?_pos, SI, h1, h2, hm]
      try rfl
    | false =>
      have hb : behind x x s = true := by
        have : ¬ place x = s := by simpa using h2
        rw [behind_first, h1]; simpa using fun h : s = place x => this h.symm
      have hm : makeL x s l = s :: mkL x s 2 l := by simp [makeL, mkL, hb]
      simp [cf48, -getElem?_pos, SI, h1, h2, fillA, dats?, chunk, rows?, hr1, hl1]
      rw [WL_code]
      refine mk_loop x l hl l.length 0 (by omega) (by omega) [] s rfl _ ?_ ?_ ?_ ?_ _ (fun env' h' h7 => ?_) (fun env' h' h6 => ?_)
      all_goals (try (simp [-getElem?_pos, rowsI]; done))
      · simp at h7
        simp [-getElem?_pos, h7, hm]
      · simp at h6
        simp [-getElem?_pos, h6, hm]
noncomputable abbrev garlandref12_Make_F := make_F
end Go.Proofs.YtfifgiopdbdeoaaDoor.Lite
namespace Go.Proofs.YtfifgiopdbdeoaaDoor.Lite
open Go
attribute [local simp] WL_of WL_nil WL_blk WL_skip WL_label WL_exit WL_goto WL_seq WL_block WL_cond WL_reg WL_ret WJ_nil WJ_ex WJ_gt WJ_rt WJ_exb WJ_gtb WJ_rtb WLO_nil WLO_call WO_nw stepN WO_mv WO_pick WO_new WO_box WO_ld WO_ldn WO_st WO_off WO_ixa WO_ixs WO_fld WO_fldn WO_ixv WO_ixvn WO_ixb WO_bin WO_eqb WO_isn WO_eqs WO_not WO_conv WO_mkf WO_bld WO_bls WO_sla WO_sls WO_sl0 WO_len WO_app WO_mnx WO_ext WO_nilc wants_none wants_some wantv_b wantv_t WLV_true WLV_false WLC_false WLB_true WLB_false evX_t evX_c evXs_nil evXs_cons look_put look_putN look_cons look_arg0 look_arg stepK binOpA intOp strOp evRes oneOf outs gc toDV AV.dat? I Bo av_s List.map List.append_nil getO putO AV.cellsOf bne WL_dreg WLP_nil WLP_call WP_mv WP_pick WP_new WP_box WP_ld WP_ldn WP_off WP_ixa WP_ixs WP_fld WP_fldn WP_ixv WP_ixvn WP_ixb WP_bin WP_eqb WP_isn WP_eqs WP_not WP_conv WP_mkf WP_bld WP_bls WP_sla WP_sls WP_sl0 WP_len WP_app WP_mnx WP_ext WP_nilc WLPV_true WLPV_false WLPC_false WLC_tells WLPC_tells padH onNm onEx List.getElem?_cons_zero List.getElem?_cons_succ List.getElem?_nil restrict AV.lows lay AV.isCell lowObj AObj.lows WJ_nm AV.lows.go WL_scope onGt_rt onGt_nm onGt_ex WL_sreg WP_st preSt eraseB List.set_cons_zero List.set_cons_succ frz cutR cutAs cutA WL_sregT cutB cutBs

noncomputable def concat_F := orcOf (fun p : Int × List Int => [.s (.sl [[.sl [[.int .i64 p.1]]], [.sl (rowsI p.2)]])]) (fun p => p.2.length ≤ 4294967290) (fun p => [SI (p.1 :: p.2)])
instance (s : Int) (l : List Int) [h : Fact (l.length ≤ 4294967290)] : Tells concat_F [.d (.sl [[.sl [[.int .i64 s]]], [.sl (rowsI l)]])] (.d (.sl (rowsI (s :: l)))) :=
  ⟨[.s (.sl [[.sl [[.int .i64 s]]], [.sl (rowsI l)]])], [SI (s :: l)], fun _ => rfl, orcOf_eq (enc := fun p : Int × List Int => [.s (.sl [[.sl [[.int .i64 p.1]]], [.sl (rowsI p.2)]])]) (x := (s, l)) h.out (fun y h => by
    simp only [List.cons.injEq, DV.s.injEq, Dat.int.injEq, Dat.sl.injEq, true_and, and_true] at h
    exact Prod.ext h.1 (rowsI_inj h.2)), rfl, rfl, fun _ _ => rfl⟩
theorem slices_Concat : Pure Tryd.prog 90 concat_F := by
  refine con (T := tbl []) (tbl_ok (by simp)) rfl rfl fun ⟨s, l⟩ hl => ⟨rfl, ?_⟩
  have hl' : l.length ≤ 4294967290 := hl
  obtain ⟨n, hn⟩ : ∃ n, n = l.length + 1 := ⟨_, rfl⟩
  have hw : IntKind.i64.wrap (1 + (l.length : Int)) = (n : Int) := by rw [wrap64]; split <;> omega
  have hwn : IntKind.i64.wrap (n : Int) = (n : Int) := wrapN n (by omega)
  have hneg : ¬ (n : Int) < 0 := by omega
  have hn0 : 0 < n := by omega
  have hn1 : ¬ n = 0 := by omega
  have hnl : n ≤ LIM := by unfold LIM; omega
  have w0 : IntKind.i64.wrap 0 = 0 := by decide
  have w1 : IntKind.i64.wrap 1 = 1 := by decide
  have w2 : IntKind.i64.wrap 2 = 2 := by decide
  simp [cf90, -getElem?_pos, stepK.lenA]
  rw [WL_code, W_loop]
  simp [-getElem?_pos, stepK.lenA, rowsI_length, w1, w2]
  rw [WL_code, W_loop]
  simp [-getElem?_pos, stepK.lenA, rowsI_length, hw, hneg, w1, w2]
  rw [WL_code, W_loop]
  simp [-getElem?_pos, stepK.lenA, rowsI_length, hw, hneg, w1, w2]
  refine WLC_fn (cf := cf122) rfl rfl rfl ?_
  simp [cf122, afterC, -getElem?_pos, stepK.lenA, bound?, sliceA, hneg, hwn, hn0, hn1, hnl, w0, w1, w2]
  have hZ : (flatC (List.replicate n [Dat.int .i64 0])).length = n := by
    have := flatC_len1 (List.replicate n 0)
    simpa [rowsI] using this
  generalize flatC (List.replicate n [Dat.int .i64 0]) = Z at hZ ⊢
  have hr1 : rowsOk 1 [[Dat.int .i64 s]] = true := rfl
  have hrl := rowsI_ok l
  have hfl := flatC_rowsI l
  have hfn := flatC_len1 l
  have hn1' : 1 ≤ n := by omega
  have hn2 : 1 + l.length ≤ n := by omega
  obtain ⟨z, Z', rfl⟩ : ∃ z Z', Z = z :: Z' := by
    cases Z with
    | nil => simp at hZ; omega
    | cons z Z' => exact ⟨_, _, rfl⟩
  have hZ' : Z'.length = l.length := by simp at hZ; omega
  have hd : Z'.drop l.length = [] := List.drop_eq_nil_of_le (by omega)
  have hin : 1 + l.length ≤ l.length + 1 := by omega
  rw [WL_code, W_loop]
  simp [-getElem?_pos, stepK.lenA, rowsI_length, w0, w1, w2, rows?, hr1, hZ', hn0, hn1', show flatC [[Dat.int .i64 s]] = [.d (.int .i64 s)] from rfl]
  rw [WL_code, W_loop]
  simp [-getElem?_pos, stepK.lenA, rowsI_length, w0, w1, w2, rows?, hrl, hZ', hn0, hn1', hn2, hin]
  have hdd : List.drop (1 + (flatC (rowsI l)).length) (AV.d (Dat.int .i64 s) :: Z') = [] := List.drop_eq_nil_of_le (by rw [hfn]; simp; omega)
  rw [hdd, List.append_nil, show 1 + l.length = (s :: l).length from by simp; omega, show (AV.d (Dat.int .i64 s) :: flatC (rowsI l)) = flatC (rowsI (s :: l)) from rfl]
  have hdc := dats_flatC (s :: l)
  have hck := chunk_rowsI (s :: l)
  have hfl2 := flatC_len1 (s :: l)
  have htk : (flatC (rowsI (s :: l))).take (s :: l).length = flatC (rowsI (s :: l)) := List.take_of_length_le (by rw [hfl2]; exact Nat.le_refl _)
  generalize hcc : flatC (rowsI (s :: l)) = cc at hdc hfl2 htk ⊢
  generalize hkk : (s :: l).length = kk at hck hfl2 htk ⊢
  rw [WL_code, W_loop]
  simp [-getElem?_pos, stepK.lenA, rowsI_length, w0, w1, w2, hdc, hck, hfl2, htk, -List.map_cons]
  exact congrArg (fun r => DV.s (Dat.sl r)) hck
noncomputable abbrev slices_Concat_F := concat_F
end Go.Proofs.YtfifgiopdbdeoaaDoor.Lite
namespace Go.Proofs.YtfifgiopdbdeoaaDoor.Lite
open Go
attribute [local simp] WL_of WL_nil WL_blk WL_skip WL_label WL_exit WL_goto WL_seq WL_block WL_cond WL_reg WL_ret WJ_nil WJ_ex WJ_gt WJ_rt WJ_exb WJ_gtb WJ_rtb WLO_nil WLO_call WO_nw stepN WO_mv WO_pick WO_new WO_box WO_ld WO_ldn WO_st WO_off WO_ixa WO_ixs WO_fld WO_fldn WO_ixv WO_ixvn WO_ixb WO_bin WO_eqb WO_isn WO_eqs WO_not WO_conv WO_mkf WO_bld WO_bls WO_sla WO_sls WO_sl0 WO_len WO_app WO_mnx WO_ext WO_nilc wants_none wants_some wantv_b wantv_t WLV_true WLV_false WLC_false WLB_true WLB_false evX_t evX_c evXs_nil evXs_cons look_put look_putN look_cons look_arg0 look_arg stepK binOpA intOp strOp evRes oneOf outs gc toDV AV.dat? I Bo av_s List.map List.append_nil getO putO AV.cellsOf bne WL_dreg WLP_nil WLP_call WP_mv WP_pick WP_new WP_box WP_ld WP_ldn WP_off WP_ixa WP_ixs WP_fld WP_fldn WP_ixv WP_ixvn WP_ixb WP_bin WP_eqb WP_isn WP_eqs WP_not WP_conv WP_mkf WP_bld WP_bls WP_sla WP_sls WP_sl0 WP_len WP_app WP_mnx WP_ext WP_nilc WLPV_true WLPV_false WLPC_false WLC_tells WLPC_tells padH onNm onEx List.getElem?_cons_zero List.getElem?_cons_succ List.getElem?_nil restrict AV.lows lay AV.isCell lowObj AObj.lows WJ_nm AV.lows.go WL_scope onGt_rt onGt_nm onGt_ex WL_sreg WP_st preSt eraseB List.set_cons_zero List.set_cons_succ frz cutR cutAs cutA WL_sregT cutB cutBs

noncomputable def TLM : Tbl := tbl [(91, list_behind_F), (90, slices_Concat_F)]
theorem TLM_ok : TblOK Tryd.prog TLM := tbl_ok (by
  simp only [List.mem_cons, List.not_mem_nil, or_false]
  rintro p (rfl | rfl)
  · exact list_behind
  · exact slices_Concat)
instance : Has TLM 91 list_behind_F := ⟨rfl⟩
instance : Has TLM 90 slices_Concat_F := ⟨rfl⟩

def LSi : CCode := (.loop [0, 2, 6, 7, 8] (.seq (.reg (⟨(some 9), .bin .lss (.t 8) (.t 7), none⟩ ::
    []))
  (.seq (.cond (.t 9) .skip (.exit 0))
  (.seq (.block 1 (.seq (.reg (⟨(some 10), .ixs 1 (.t 6) (.t 8), none⟩ ::
    ⟨(some 11), .ld (.t 10), none⟩ ::
    ⟨(some 5), .mv (.t 11), none⟩ ::
    []))
  (.seq (.seq (.reg (⟨(some 12), .mv (.t 0), none⟩ ::
    ⟨(some 13), .ld (.t 2), none⟩ ::
    ⟨(some 14), .mv (.t 5), none⟩ ::
    ⟨(some 15), .call (.t 12) [(.t 13), (.t 14)], none⟩ ::
    ⟨(some 16), .not (.t 15), none⟩ ::
    []))
  (.cond (.t 16) .ret .skip))
  (.reg (⟨(some 17), .mv (.t 5), none⟩ ::
    ⟨none, .st 1 (.t 2) (.t 17), none⟩ ::
    [])))))
  (.reg (⟨(some 18), .bin .add (.t 8) (.c (.d (.int .i64 1))), none⟩ ::
    ⟨(some 8), .mv (.t 18), none⟩ ::
    []))))))
theorem LSi_eq : LSi = .loop [0, 2, 6, 7, 8] (.seq (.reg (⟨(some 9), .bin .lss (.t 8) (.t 7), none⟩ ::
    []))
  (.seq (.cond (.t 9) .skip (.exit 0))
  (.seq (.block 1 (.seq (.reg (⟨(some 10), .ixs 1 (.t 6) (.t 8), none⟩ ::
    ⟨(some 11), .ld (.t 10), none⟩ ::
    ⟨(some 5), .mv (.t 11), none⟩ ::
    []))
  (.seq (.seq (.reg (⟨(some 12), .mv (.t 0), none⟩ ::
    ⟨(some 13), .ld (.t 2), none⟩ ::
    ⟨(some 14), .mv (.t 5), none⟩ ::
    ⟨(some 15), .call (.t 12) [(.t 13), (.t 14)], none⟩ ::
    ⟨(some 16), .not (.t 15), none⟩ ::
    []))
  (.cond (.t 16) .ret .skip))
  (.reg (⟨(some 17), .mv (.t 5), none⟩ ::
    ⟨none, .st 1 (.t 2) (.t 17), none⟩ ::
    [])))))
  (.reg (⟨(some 18), .bin .add (.t 8) (.c (.d (.int .i64 1))), none⟩ ::
    ⟨(some 8), .mv (.t 18), none⟩ ::
    []))))) := rfl
def recMk (e0 : Env) : LRec := ⟨[16, 17], (.seq (.reg (⟨(some 7), .mv (.t 16), none⟩ ::
    []))
  (.reg (⟨(some 8), .mv (.t 17), none⟩ ::
    []))), (.block 1 (.seq (.seq (.reg (⟨(some 18), .ld (.t 6), none⟩ ::
    ⟨(some 19), .len false (.t 18), none⟩ ::
    ⟨(some 20), .bin .eql (.t 19) (.c (.d (.int .i64 3))), none⟩ ::
    ⟨(some 21), .mv (.t 20), none⟩ ::
    ⟨(some 22), .ld (.t 3), (some (21, false))⟩ ::
    ⟨(some 23), .mv (.t 7), (some (21, false))⟩ ::
    ⟨(some 24), .mv (.t 8), (some (21, false))⟩ ::
    ⟨(some 25), .call (.c (.fn 91 [])) [(.t 22), (.t 23), (.t 24)], (some (21, false))⟩ ::
    ⟨(some 26), .not (.t 25), (some (21, false))⟩ ::
    ⟨(some 27), .pick (.t 21) (.c (.d (.bool true))) (.t 26), none⟩ ::
    []))
  (.cond (.t 27) (.goto 0) .skip))
  (.reg (⟨(some 28), .ld (.t 6), none⟩ ::
    ⟨(some 29), .mv (.t 8), none⟩ ::
    ⟨(some 30), .bls [.d (.int .i64 0)] 1 1 [(0, 1, (.t 29))], none⟩ ::
    ⟨(some 31), .app 1 (.t 28) (.t 30), none⟩ ::
    ⟨none, .st 1 (.t 6) (.t 31), none⟩ ::
    [])))), e0⟩
def hM (x a : Int) (L out : List Int) : Heap := [some (.cells [.d (.int .i64 x)]), some (.cells [.ws (rowsI out) 11]), none, none, some (.tok 1 1), none, some (.tok 1 2), none, some (.cells [.d (.int .i64 a)]), some (.cells [vsI L]), some (.tok 1 1), some (.tok 1 out.length)]
theorem mkp_loop (x : Int) (L : List Int) (hL : L.length < 9223372036854775807) (e0 : Env) (g3 : look e0 3 = some (.ptr 0 0)) (g6 : look e0 6 = some (.ptr 1 0)) : ∀ (k i : Nat), L.length - i = k → i ≤ L.length → ∀ (out : List Int) (a : Int) (env : Env), out.length ≤ 3 → look env 0 = some (.yld 0) → look env 2 = some (.ptr 8 0) → look env 6 = some (vsI L) →
    look env 7 = some (.d (.int .i64 L.length)) → look env 8 = some (.d (.int .i64 i)) → ∀ (Q : Ex → Env → St → Prop),
    (∀ env' a', Q (.ex 0) env' ⟨hM x a' L (out ++ mkL x a (3 - out.length) (L.drop i)), [none]⟩) →
    (∀ env' a', Q .rt env' ⟨hM x a' L (out ++ mkL x a (3 - out.length) (L.drop i)), [some (.gt 0)]⟩) →
    W TLM ⟨[some (recMk e0)], 0⟩ LSi env ⟨hM x a L out, [none]⟩ Q := by
  intro k
  induction k with
  | zero =>
    intro i hk hi out a env ho h0 h2 h6 h7 h8 Q hQ1 hQ2
    have hlt : ¬ i < L.length := by omega
    rw [List.drop_eq_nil_of_le (by omega)] at hQ1
    have hz : mkL x a (3 - out.length) [] = [] := by cases 3 - out.length <;> rfl
    rw [hz, List.append_nil] at hQ1
    rw [LSi_eq, W_loop]
    simp [-getElem?_pos, h0, h2, h6, h7, h8, hlt]
    exact hQ1 _ _
  | succ k ih =>
    intro i hk hi out a env ho h0 h2 h6 h7 h8 Q hQ1 hQ2
    have hlt : i < L.length := by omega
    obtain ⟨n, hn⟩ : ∃ n, L[i]? = some n := ⟨_, List.getElem?_eq_getElem hlt⟩
    have hd : L.drop i = n :: L.drop (i + 1) := by rw [List.drop_eq_getElem_cons hlt]; congr 1; exact (List.getElem?_eq_some_iff.1 hn).2
    have hw := wrapN1 i (by omega)
    have hr1 : rowsOk 1 [[Dat.int .i64 n]] = true := rfl
    have hro := rowsI_ok out
    have hcap : out.length + 1 ≤ LIM := by unfold LIM; omega
    have hap : rowsI out ++ [[Dat.int .i64 n]] = rowsI (out ++ [n]) := by simp [rowsI]
    have hol : (out ++ [n]).length = out.length + 1 := by simp
    have hll := rowsI_length out
    rw [LSi_eq, W_loop]
    simp [-getElem?_pos, h0, h2, h6, h7, h8, hlt, rowsI_get, hn, hM, -Int.natCast_add]
    refine WLC_yld (r := recMk e0) rfl rfl rfl ?_
    by_cases h3 : out.length = 3
    · have hm : 3 - out.length = 0 := by omega
      rw [hm] at hQ1 hQ2
      simp only [mkL, List.append_nil] at hQ1 hQ2
      have hb : ((out.length : Int) == 3) = true := by simp; omega
      simp [recMk, bindPs, -getElem?_pos, g3, g6, hll, h3, stepK.lenA, afterY, h0, h2, h6, h7, h8, hlt, -Int.natCast_add]
      have := hQ2
      simp only [hM, h3] at this
      exact this _ _
    · have hb : ((out.length : Int) == 3) = false := by rw [beq_eq_false_iff_ne]; omega
      obtain ⟨m, hm⟩ : ∃ m, 3 - out.length = m + 1 := ⟨3 - out.length - 1, by omega⟩
      have hm2 : 3 - (out.length + 1) = m := by omega
      rw [hm, hd] at hQ1 hQ2
      cases hbh : behind x a n with
      | false =>
        simp only [mkL, hbh, cond_false, List.append_nil] at hQ1 hQ2
        simp [recMk, bindPs, -getElem?_pos, g3, g6, hll, hb, hbh, stepK.lenA, afterY, h0, h2, h6, h7, h8, hlt, -Int.natCast_add]
        exact hQ2 _ _
      | true =>
        simp only [mkL, hbh, cond_true] at hQ1 hQ2
        simp [recMk, bindPs, -getElem?_pos, g3, g6, hll, hb, hbh, stepK.lenA, afterY, h0, h2, h6, h7, h8, hlt, fillA, dats?, chunk, rows?, hr1, hro, stepK.getTok, hcap, hap, -Int.natCast_add]
        rw [← hol]
        refine (WL_of (c := LSi)).1 (ih (i + 1) (by omega) (by omega) (out ++ [n]) n _ (by rw [hol]; omega) ?_ ?_ ?_ ?_ ?_ Q (fun env' a' => ?_) (fun env' a' => ?_))
        · simp [-getElem?_pos, h0]
        · simp [-getElem?_pos, h2]
        · simp [-getElem?_pos, h6]
        · simp [-getElem?_pos, h7]
        · simp [-getElem?_pos, hw, -Int.natCast_add]
        · rw [hol, hm2]; simpa using hQ1 env' a'
        · rw [hol, hm2]; simpa using hQ2 env' a'
theorem list_Make : Pure Tryd.prog 45 make_F := by
  refine con TLM_ok rfl rfl fun ⟨x, s, l⟩ hl => ⟨rfl, ?_⟩
  haveI : Fact (l.length ≤ 4294967290) := ⟨hl⟩
  have hl' : l.length ≤ 4294967290 := hl
  obtain ⟨L, hL⟩ : ∃ L, L = s :: l := ⟨_, rfl⟩
  have hLl : L.length = l.length + 1 := by rw [hL]; rfl
  have hL0 : L[0]? = some s := by rw [hL]; rfl
  have hlt : 0 < L.length := by omega
  have hr1 : rowsOk 1 [[Dat.int .i64 s]] = true := rfl
  have hl1 : 1 ≤ LIM := by unfold LIM; omega
  have w1 : IntKind.i64.wrap 1 = 1 := by decide
  have e3 : ((0 : Int) == 3) = false := rfl
  simp [cf45, -getElem?_pos, SI, fillA, dats?, chunk]
  rw [← hL]
  refine WLC_fn (cf := cf89) rfl rfl rfl ?_
  simp [cf89, afterC, -getElem?_pos]
  refine WL_range (cf := cf121) rfl rfl rfl rfl ?_
  simp [cf121, -getElem?_pos, stepK.lenA, rowsI_length]
  rw [WL_code, W_loop]
  simp [-getElem?_pos, hlt, rowsI_get, hL0]
  refine WLC_yld (r := recMk _) rfl rfl rfl ?_
  cases hb : behind x x s with
  | false =>
    have hm : makeL x s l = [] := by simp [makeL, mkL, hb]
    simp [recMk, bindPs, -getElem?_pos, stepK.lenA, e3, hb, afterY, afterR, hlt, rowsI_get, hL0]
    refine onGt_go (rest := (.seq .skip (.seq (.reg (⟨(some 32), .ld (.t 6), none⟩ ::
    ⟨none, .st 1 (.t 6) (.t 32), none⟩ ::
    []))
  .ret))) rfl ?_
    simp [-getElem?_pos, hm]
    try rfl
  | true =>
    have hm : makeL x s l = s :: mkL x s 2 l := by simp [makeL, mkL, hb]
    simp [recMk, bindPs, -getElem?_pos, stepK.lenA, e3, hb, afterY, hlt, rowsI_get, hL0, fillA, dats?, chunk, rows?, hr1, stepK.getTok, hl1, w1]
    refine (WL_of (c := LSi)).1 (mkp_loop x L (by omega) _ ?_ ?_ (L.length - 1) 1 rfl (by omega) [s] s _ (by simp) ?_ ?_ ?_ ?_ ?_ _ (fun env' a' => ?_) (fun env' a' => ?_))
    all_goals (try (simp [-getElem?_pos]; done))
    · simp [-getElem?_pos, afterR, hM, hm, hL]
      trace_state
    · simp [-getElem?_pos, afterR, hM]
      refine onGt_go (rest := (.seq .skip (.seq (.reg (⟨(some 32), .ld (.t 6), none⟩ ::
    ⟨none, .st 1 (.t 6) (.t 32), none⟩ ::
    []))
  .ret))) rfl ?_
      simp [-getElem?_pos, hm, hL]
noncomputable abbrev list_Make_F := make_F
end Go.Proofs.YtfifgiopdbdeoaaDoor.Lite
namespace Go.Proofs.YtfifgiopdbdeoaaDoor.Lite
open Go

theorem far_lo (a b : Int) : 0 ≤ far a b := by unfold far; omega
theorem far_hi (a b : Int) : far a b < 65536 := by unfold far; omega
theorem far_self (a : Int) : far a a = 0 := by unfold far; omega
theorem isPlace_iff (n : Int) : isPlace n = true ↔ 0 ≤ n ∧ n < 65536 := by simp [isPlace]

theorem chain_mem {x : Int} : ∀ {l : List Int} {p : Int}, chain x p l = true → ∀ n ∈ l, isPlace n = true ∧ far x p < far x n
  | [], p, _, n, hn => by cases hn
  | m :: l, p, h, n, hn => by
    simp only [chain, behind, Bool.and_eq_true, decide_eq_true_eq] at h
    rcases List.mem_cons.1 hn with rfl | hn
    · exact h.1
    · have := chain_mem h.2 n hn
      exact ⟨this.1, by omega⟩

theorem ownF_place (key : Int) : ∀ (l : List Int) (a : Int), 0 ≤ a → a < 65536 → 0 ≤ ownF key a l ∧ ownF key a l < 65536
  | [], a, h1, h2 => ⟨h1, h2⟩
  | x :: l, a, h1, h2 => by
    unfold ownF
    apply ownF_place key l
    · cases decide (far key x < far key a) <;> simp [place] <;> omega
    · cases decide (far key x < far key a) <;> simp [place] <;> omega

theorem ownF_le (key : Int) : ∀ (l : List Int) (a : Int), far key (ownF key a l) ≤ far key a ∧ ∀ n ∈ l, far key (ownF key a l) ≤ far key n
  | [], a => ⟨Int.le_refl _, fun _ h => by cases h⟩
  | x :: l, a => by
    unfold ownF
    have hx : far key (place x) = far key x := by unfold far place; omega
    cases h : decide (far key x < far key a) with
    | true =>
      simp only [cond_true]
      obtain ⟨h1, h2⟩ := ownF_le key l (place x)
      rw [hx] at h1
      have : far key x < far key a := by simpa using h
      refine ⟨by omega, fun n hn => ?_⟩
      rcases List.mem_cons.1 hn with rfl | hn
      · exact h1
      · exact h2 n hn
    | false =>
      simp only [cond_false]
      obtain ⟨h1, h2⟩ := ownF_le key l a
      have : ¬ far key x < far key a := by simpa using h
      refine ⟨h1, fun n hn => ?_⟩
      rcases List.mem_cons.1 hn with rfl | hn
      · omega
      · exact h2 n hn

structure VW.R (v : VW) : Prop where
  id0 : 0 ≤ v.id
  id1 : v.id < 65536
  b2 : 2 ≤ v.base.length
  b4 : v.base.length ≤ 4
  ch : chain v.id v.id v.lst = true
  l3 : v.lst.length ≤ 3
  pr : other v.id v.pred = true
  bs : baseOk v.base = true
  fn : ∀ n ∈ v.fin, other v.id n = true
theorem VW.r {v : VW} (h : v.right = true) : v.R := by
  unfold VW.right listRight at h
  simp only [Bool.and_eq_true, decide_eq_true_eq, isPlace_iff, List.all_eq_true] at h
  obtain ⟨⟨⟨⟨⟨⟨⟨h1, h2⟩, h3⟩, h4⟩, h5, h6⟩, h7⟩, h8⟩, h9⟩ := h
  exact ⟨h1, h2, h3, h4, h5, h6, h7, h8, h9⟩

theorem base_two {l : List Int} (h : baseOk l = true) (h2 : 2 ≤ l.length) : ∃ a b r, l = a :: b :: r ∧ isPlace a = true ∧ isPlace b = true ∧ a < b := by
  match l, h2 with
  | a :: b :: r, _ =>
    have h0 := (baseOk_iff _).1 h 0 a rfl
    have h1 := (baseOk_iff _).1 h 1 b rfl
    simp [bAt] at h0 h1
    exact ⟨a, b, r, rfl, h0, h1.1, h1.2⟩

theorem anchor_ok {v : VW} (h : v.right = true) : 0 ≤ v.anchor ∧ v.anchor < 65536 ∧ 0 < far v.id v.anchor := by
  have R := VW.r h
  obtain ⟨a, b, r, hb, ha, hbb, hlt⟩ := base_two R.bs R.b2
  rw [isPlace_iff] at ha hbb
  have hA : v.anchor = ownF (v.id + 1) (place a) (b :: r) := by simp [VW.anchor, h, owner, hb]
  have h1 := ownF_place (v.id + 1) (b :: r) (place a) (by unfold place; omega) (by unfold place; omega)
  obtain ⟨h2, h3⟩ := ownF_le (v.id + 1) (b :: r) (place a)
  have h4 := h3 b (by simp)
  rw [← hA] at h1 h2 h4
  have := R.id0; have := R.id1
  refine ⟨h1.1, h1.2, ?_⟩
  unfold far place at *
  omega

theorem first_ok {v : VW} (h : v.right = true) : 0 ≤ v.first ∧ v.first < 65536 ∧ 0 < far v.id v.first := by
  have R := VW.r h
  unfold VW.first
  split
  · exact anchor_ok h
  · rename_i x l hl
    have := chain_mem R.ch x (by rw [hl]; simp)
    rw [isPlace_iff, far_self] at this
    simp [h]
    exact ⟨this.1.1, this.1.2, this.2⟩

end Go.Proofs.YtfifgiopdbdeoaaDoor.Lite
namespace Go.Proofs.YtfifgiopdbdeoaaDoor.Lite
open Go

def skipsL : Int → List Int → List Int → Bool
  | _, [], _ => false
  | a, n :: l, base => base.any (fun b => inB a b n) || skipsL n l base
theorem mkL_skips (x : Int) (base : List Int) : ∀ (k : Nat) (l : List Int) (a : Int), skipsL a l base = false → skipsL a (mkL x a k l) base = false
  | 0, l, a, h => by simp [mkL, skipsL]
  | k + 1, [], a, h => by simp [mkL, skipsL]
  | k + 1, n :: l, a, h => by
    simp only [mkL]
    cases hb : behind x a n with
    | false => simp [skipsL]
    | true =>
      simp only [cond_true, skipsL, Bool.or_eq_false_iff] at h ⊢
      exact ⟨h.1, mkL_skips x base k l n h.2⟩
theorem mkL_chain (x : Int) : ∀ (k : Nat) (l : List Int) (a : Int), chain x a (mkL x a k l) = true
  | 0, l, a => by simp [mkL, chain]
  | k + 1, [], a => by simp [mkL, chain]
  | k + 1, n :: l, a => by
    simp only [mkL]
    cases hb : behind x a n with
    | false => simp [chain]
    | true => simp only [cond_true, chain, hb, Bool.true_and]; exact mkL_chain x k l n
theorem mkL_len (x : Int) : ∀ (k : Nat) (l : List Int) (a : Int), (mkL x a k l).length ≤ k
  | 0, l, a => by simp [mkL]
  | k + 1, [], a => by simp [mkL]
  | k + 1, n :: l, a => by
    simp only [mkL]
    cases hb : behind x a n with
    | false => simp
    | true => simp only [cond_true, List.length_cons]; have := mkL_len x k l n; omega
theorem makeL_len (x s : Int) (l : List Int) : (makeL x s l).length ≤ 3 := mkL_len x 3 (s :: l) x
theorem makeL_63 (x s : Int) (l : List Int) : (makeL x s l).length < 9223372036854775808 := by have := makeL_len x s l; omega
theorem makeL_right (x s : Int) (l : List Int) : listRight x (makeL x s l) = true := by
  unfold listRight makeL
  rw [mkL_chain]
  simpa using mkL_len x 3 (s :: l) x
def VW.withL (v : VW) (l : List Int) (h : l.length < 9223372036854775808) : VW := ⟨v.id, v.base, l, v.pred, v.fin, v.hf, v.hb, h⟩
theorem withL_right {v : VW} {l : List Int} {h : l.length < 9223372036854775808} (hv : v.right = true) (hl : listRight v.id l = true) : (v.withL l h).right = true := by
  unfold VW.right at hv ⊢
  simp only [VW.withL, hl, Bool.and_true, Bool.and_eq_true] at hv ⊢
  exact ⟨⟨⟨hv.1.1.1.1, hv.1.1.2⟩, hv.1.2⟩, hv.2⟩
theorem place_of {n : Int} (h : isPlace n = true) : place n = n := by rw [isPlace_iff] at h; unfold place; omega
theorem id_place {v : VW} (hv : v.right = true) : isPlace v.id = true := (isPlace_iff _).2 (right_id hv)
theorem makeL_cons {x s : Int} (hx : isPlace x = true) (hs : isPlace s = true) (hne : s ≠ x) (l : List Int) : makeL x s l = s :: mkL x s 2 l := by
  have hb : behind x x s = true := by rw [behind_first, hs, place_of hx]; simpa using hne
  simp [makeL, mkL, hb]
theorem in_trans {a p s b : Int} (h1 : inB a p s = true) (h2 : inB a b p = true) : inB a b s = true := by
  unfold inB at *
  simp only [Bool.and_eq_true, bne_iff_ne, Bool.or_eq_true, decide_eq_true_eq, beq_iff_eq] at *
  omega
theorem no_first {v : VW} (hv : v.right = true) (hs : skipsL v.id v.lst v.base = false) : ∀ b ∈ v.base, inB v.id b v.first = false := by
  intro b hb
  cases hl : v.lst with
  | cons x l =>
    rw [hl] at hs
    simp only [skipsL, Bool.or_eq_false_iff] at hs
    have hf : v.first = x := by simp [VW.first, hl, hv]
    rw [hf]
    have := List.any_eq_false.1 hs.1 b hb
    simpa using this
  | nil =>
    have hf : v.first = v.anchor := by simp [VW.first, hl]
    have R := VW.r hv
    obtain ⟨a, c, r, hbs, ha, hc, hlt⟩ := base_two R.bs R.b2
    obtain ⟨o1, o2, o3⟩ := anchor_ok hv
    have hA : v.anchor = ownF (v.id + 1) (place a) (c :: r) := by simp [VW.anchor, hv, owner, hbs]
    obtain ⟨h2, h3⟩ := ownF_le (v.id + 1) (c :: r) (place a)
    rw [← hA] at h2 h3
    have hle : far (v.id + 1) v.anchor ≤ far (v.id + 1) b := by
      rw [hbs] at hb
      rcases List.mem_cons.1 hb with rfl | hb
      · have : far (v.id + 1) (place b) = far (v.id + 1) b := by unfold far place; omega
        omega
      · exact h3 b hb
    rw [hf]
    cases hin : inB v.id b v.anchor with
    | false => rfl
    | true =>
      exfalso
      unfold inB at hin
      simp only [Bool.and_eq_true, bne_iff_ne, Bool.or_eq_true, decide_eq_true_eq, beq_iff_eq] at hin
      unfold far at *
      omega
theorem make_skips {v : VW} (hv : v.right = true) {s : Int} (hs : isPlace s = true) (hne : s ≠ v.id) (hno : ∀ b ∈ v.base, inB v.id b s = false) {l : List Int} (hl : skipsL s l v.base = false) : skipsL v.id (makeL v.id s l) v.base = false := by
  rw [makeL_cons (id_place hv) hs hne]
  simp only [skipsL, Bool.or_eq_false_iff]
  exact ⟨List.any_eq_false.2 fun b hb => by rw [hno b hb]; simp, mkL_skips _ _ 2 l s hl⟩
theorem first_ne {v : VW} (hv : v.right = true) : v.first ≠ v.id := by
  obtain ⟨_, _, h⟩ := first_ok hv
  intro e; rw [e, far_self] at h; omega
theorem first_place {v : VW} (hv : v.right = true) : isPlace v.first = true := by
  obtain ⟨h1, h2, _⟩ := first_ok hv
  exact (isPlace_iff _).2 ⟨h1, h2⟩

/-! ### rounds -/
def stabRight (p o : Int) : Bool := bif p == 0 then o == 0 else decide (p ≤ 3) && isPlace o
def whyS (p o : Int) : Int := bif stabRight p o then p else 0
def askRow (kind to why : Int) : List Dat := [.int .u8 kind, .int .i64 0, .int .i64 0, .int .i64 to, .int .i64 0, .bool false, .bool false, .int .i64 0, .int .i64 0, .sl [], .str [], .int .i64 0, .int .i64 0, .bool false, .int .i64 0, .int .u8 why]
def kindS (p : Int) : Int := bif p == 3 then 3 else bif p == 0 then 0 else 1
def askRows (p o : Int) : List (List Dat) := bif p == 0 then [] else [askRow (kindS p) o p]
def SW (p o : Int) : DV := .g [.int .u8 p, .int .i64 o]
abbrev scs (p o : Int) : List AV := [.d (.int .u8 p), .d (.int .i64 o)]
end Go.Proofs.YtfifgiopdbdeoaaDoor.Lite
namespace Go.Proofs.YtfifgiopdbdeoaaDoor.Lite
open Go
attribute [local simp] WL_of WL_nil WL_blk WL_skip WL_label WL_exit WL_goto WL_seq WL_block WL_cond WL_reg WL_ret WJ_nil WJ_ex WJ_gt WJ_rt WJ_exb WJ_gtb WJ_rtb WLO_nil WLO_call WO_nw stepN WO_mv WO_pick WO_new WO_box WO_ld WO_ldn WO_st WO_off WO_ixa WO_ixs WO_fld WO_fldn WO_ixv WO_ixvn WO_ixb WO_bin WO_eqb WO_isn WO_eqs WO_not WO_conv WO_mkf WO_bld WO_bls WO_sla WO_sls WO_sl0 WO_len WO_app WO_mnx WO_ext WO_nilc wants_none wants_some wantv_b wantv_t WLV_true WLV_false WLC_false WLB_true WLB_false evX_t evX_c evXs_nil evXs_cons look_put look_putN look_cons look_arg0 look_arg stepK binOpA intOp strOp evRes oneOf outs gc toDV AV.dat? I Bo av_s List.map List.append_nil getO putO AV.cellsOf bne WL_dreg WLP_nil WLP_call WP_mv WP_pick WP_new WP_box WP_ld WP_ldn WP_off WP_ixa WP_ixs WP_fld WP_fldn WP_ixv WP_ixvn WP_ixb WP_bin WP_eqb WP_isn WP_eqs WP_not WP_conv WP_mkf WP_bld WP_bls WP_sla WP_sls WP_sl0 WP_len WP_app WP_mnx WP_ext WP_nilc WLPV_true WLPV_false WLPC_false WLC_tells WLPC_tells padH onNm onEx List.getElem?_cons_zero List.getElem?_cons_succ List.getElem?_nil restrict AV.lows lay AV.isCell lowObj AObj.lows WJ_nm AV.lows.go WL_scope onGt_rt onGt_nm onGt_ex WL_sreg WP_st preSt eraseB List.set_cons_zero List.set_cons_succ frz cutR cutAs cutA WL_sregT cutB cutBs

instance (l : List Int) (d : Int) [h : Fact (l.length ≤ 4294967296)] : Tells drop_F [.d (.sl (rowsI l)), .d (.int .i64 d)] (.d (.sl (rowsI (l.filter (· != d))))) :=
  ⟨[SI l, I d], [SI (l.filter (· != d))], fun _ => rfl, orcOf_eq (enc := fun p : List Int × Int => [SI p.1, I p.2]) (x := (l, d)) h.out (fun y h => by
    simp only [I, SI, List.cons.injEq, DV.s.injEq, Dat.int.injEq, Dat.sl.injEq, true_and, and_true] at h
    exact Prod.ext (rowsI_inj h.1) h.2), rfl, rfl, fun _ _ => rfl⟩
def alive (d n : Int) : Int := bif n == d then -1 else n
def VW.withP (v : VW) (n : Int) : VW := ⟨v.id, v.base, v.lst, n, v.fin, v.hf, v.hb, v.hl⟩
def VW.withF (v : VW) (L : List Int) (h : L.length = 16) : VW := ⟨v.id, v.base, v.lst, v.pred, L, h, v.hb, v.hl⟩
theorem filter_63 {l : List Int} (p : Int → Bool) (h : l.length < 9223372036854775808) : (l.filter p).length < 9223372036854775808 := Nat.lt_of_le_of_lt (List.length_filter_le _ _) h
def VW.dead (v : VW) (d : Int) : VW := bif v.right && !(decide (d ∈ v.base)) then ((v.withL (v.lst.filter (· != d)) (filter_63 _ v.hl)).withP (alive d v.pred)).withF (v.fin.map (alive d)) (by simp [v.hf]) else v
theorem cs_layL (v : VW) (l : List Int) (h : l.length < 9223372036854775808) : v.cs.take 2 ++ vsI l :: v.cs.drop 3 = (v.withL l h).cs := rfl
theorem cs_layP (v : VW) (n : Int) : v.cs.take 3 ++ AV.d (.int .i64 n) :: v.cs.drop 4 = (v.withP n).cs := rfl
theorem cs_layF (v : VW) (L : List Int) (h : L.length = 16) (i : Nat) (n : Int) (hi : i < 16) : (v.withF L h).cs.take (4 + i) ++ AV.d (.int .i64 n) :: (v.withF L h).cs.drop (4 + i + 1) = (v.withF (L.set i n) (by simp [h])).cs := by
  rw [Nat.add_comm 4 i]
  have e : L.set i n = L.take i ++ n :: L.drop (i + 1) := by rw [List.set_eq_take_append_cons_drop, if_pos (by omega)]
  simp [VW.cs, VW.withF, e, List.map_take, List.map_drop]
theorem set_step (d : Int) (F : List Int) (i : Nat) {n : Int} (hn : F[i]? = some n) : ((F.take i).map (alive d) ++ F.drop i).set i (alive d n) = (F.take (i + 1)).map (alive d) ++ F.drop (i + 1) := by
  have hi : i < F.length := (List.getElem?_eq_some_iff.1 hn).1
  have hd : F.drop i = n :: F.drop (i + 1) := by rw [List.drop_eq_getElem_cons hi]; congr 1; exact (List.getElem?_eq_some_iff.1 hn).2
  have ht : F.take (i + 1) = F.take i ++ [n] := by rw [List.take_add_one, hn]; rfl
  have hl : ((F.take i).map (alive d)).length = i := by simp; omega
  rw [hd, List.set_append, if_neg (by omega), hl, Nat.sub_self, List.set_cons_zero, ht]
  simp
theorem cs_drop20 (v : VW) : v.cs.drop 20 = [] := List.drop_eq_nil_of_le (by rw [cs_length]; exact Nat.le_refl _)
noncomputable def dead_F := orcOf (fun p : VW × Int => [V p.1, I p.2]) (fun p => p.1.small) (fun p => [V (p.1.dead p.2)])
noncomputable def TVD : Tbl := tbl [(43, view_Own_F), (36, view_Right_F), (93, slices_Contains_F), (94, list_Drop_F)]
theorem TVD_ok : TblOK Tryd.prog TVD := tbl_ok (by
  simp only [List.mem_cons, List.not_mem_nil, or_false]
  rintro p (rfl | rfl | rfl | rfl)
  · exact view_Own
  · exact view_Right
  · exact slices_Contains
  · exact list_Drop)
instance : Has TVD 43 view_Own_F := ⟨rfl⟩
instance : Has TVD 36 view_Right_F := ⟨rfl⟩
instance : Has TVD 93 slices_Contains_F := ⟨rfl⟩
instance : Has TVD 94 list_Drop_F := ⟨rfl⟩

def LVd : CCode := (.loop [2, 4, 5, 32, 33] (.seq (.reg (⟨(some 34), .bin .lss (.t 33) (.c (.d (.int .i64 16))), none⟩ ::
    []))
  (.seq (.cond (.t 34) .skip (.exit 0))
  (.seq (.block 1 (.seq (.reg (⟨(some 35), .mv (.t 33), none⟩ ::
    ⟨(some 36), .ixv 16 (.t 32) (.t 33), none⟩ ::
    ⟨(some 6), .mv (.t 35), none⟩ ::
    ⟨(some 7), .mv (.t 36), none⟩ ::
    []))
  (.reg (⟨(some 37), .mv (.t 6), none⟩ ::
    ⟨(some 38), .mv (.t 5), none⟩ ::
    ⟨(some 39), .mv (.t 7), none⟩ ::
    ⟨(some 40), .call (.t 38) [(.t 39)], none⟩ ::
    ⟨(some 41), .off 4 (.t 2), none⟩ ::
    ⟨(some 42), .ixa 16 1 (.t 41) (.t 37), none⟩ ::
    ⟨none, .st 1 (.t 42) (.t 40), none⟩ ::
    []))))
  (.reg (⟨(some 43), .bin .add (.t 33) (.c (.d (.int .i64 1))), none⟩ ::
    ⟨(some 33), .mv (.t 43), none⟩ ::
    []))))))
theorem LVd_eq : LVd = .loop [2, 4, 5, 32, 33] (.seq (.reg (⟨(some 34), .bin .lss (.t 33) (.c (.d (.int .i64 16))), none⟩ ::
    []))
  (.seq (.cond (.t 34) .skip (.exit 0))
  (.seq (.block 1 (.seq (.reg (⟨(some 35), .mv (.t 33), none⟩ ::
    ⟨(some 36), .ixv 16 (.t 32) (.t 33), none⟩ ::
    ⟨(some 6), .mv (.t 35), none⟩ ::
    ⟨(some 7), .mv (.t 36), none⟩ ::
    []))
  (.reg (⟨(some 37), .mv (.t 6), none⟩ ::
    ⟨(some 38), .mv (.t 5), none⟩ ::
    ⟨(some 39), .mv (.t 7), none⟩ ::
    ⟨(some 40), .call (.t 38) [(.t 39)], none⟩ ::
    ⟨(some 41), .off 4 (.t 2), none⟩ ::
    ⟨(some 42), .ixa 16 1 (.t 41) (.t 37), none⟩ ::
    ⟨none, .st 1 (.t 42) (.t 40), none⟩ ::
    []))))
  (.reg (⟨(some 43), .bin .add (.t 33) (.c (.d (.int .i64 1))), none⟩ ::
    ⟨(some 33), .mv (.t 43), none⟩ ::
    []))))) := rfl
def hVd (u : VW) (d : Int) (z : List AV) : Heap := [some (.cells u.cs), some (.cells [.d (.int .i64 d)]), some (.cells z)]
theorem alive_clo (u : VW) (d : Int) (z : List AV) (hzl : ∀ N M, z.all (AV.lows N M) = true) {env : Env} {Q : Ex → Env → St → Prop} {dst : Option Nat} {os : List COp} {fs : List Fr} {n : Int} (h : WLO TVD ⟨[], 0⟩ os fs (putE env dst (.d (.int .i64 (alive d n)))) ⟨hVd u d z, []⟩ Q) :
    WLC TVD ⟨[], 0⟩ (some true) (some (.fn 95 [.ptr 1 0])) (some [.d (.int .i64 n)]) dst os fs env ⟨hVd u d z, []⟩ Q := by
  have hca := cs_all u
  have hcl : ∀ N M, ∀ x ∈ u.cs, AV.lows N M x = true := fun N M x hx => List.all_eq_true.1 (cs_all u N M) x hx
  have hzl2 : ∀ N M, ∀ x ∈ z, AV.lows N M x = true := fun N M x hx => List.all_eq_true.1 (hzl N M) x hx
  refine WLC_fn (cf := cf95) rfl rfl rfl ?_
  simp [cf95, afterC, -getElem?_pos, hVd]
  all_goals (try (first | refine WLV_splitN (fun hs => ?_) (fun hs => ?_) | refine WLC_splitN (fun hs => ?_) (fun hs => ?_) | refine WLB_splitN (fun hs => ?_) (fun hs => ?_) | refine WLPV_splitN (fun hs => ?_) (fun hs => ?_) | refine WLPC_splitN (fun hs => ?_) (fun hs => ?_) | refine WLPV_split (fun hs => ?_) (fun hs => ?_) | refine WLPC_split (fun hs => ?_) (fun hs => ?_) | refine WLV_split (fun hs => ?_) (fun hs => ?_) | refine WLC_split (fun hs => ?_) (fun hs => ?_) | refine WLB_split (fun hs => ?_) (fun hs => ?_)))
  all_goals (try (have hs' := hs; simp at hs'))
  all_goals (try simp [*, -getElem?_pos, afterC, hVd])
  all_goals (simp only [alive, hs, cond_true, cond_false, hVd] at h)
  all_goals (have h1 : ∀ x ∈ u.cs, AV.lows 3 0 x = true := hcl 3 0)
  all_goals (have h2 : ∀ x ∈ z, AV.lows 3 0 x = true := hzl2 3 0)
  all_goals (try simp [afterC, -getElem?_pos, -AV.lows, h1, h2])
  all_goals exact h
theorem vdead_loop (v : VW) (d : Int) (z : List AV) (hzl : ∀ N M, z.all (AV.lows N M) = true) (F : List Int) (hF : F.length = 16) : ∀ (k i : Nat), 16 - i = k → i ≤ 16 → ∀ (L : List Int) (hL : L.length = 16) (env : Env), L = (F.take i).map (alive d) ++ F.drop i → look env 2 = some (.ptr 0 0) → look env 4 = some (.ptr 2 0) →
    look env 5 = some (.fn 95 [.ptr 1 0]) → look env 32 = some (.agg (F.map fun n => .d (.int .i64 n))) → look env 33 = some (.d (.int .i64 i)) → ∀ (Q : Ex → Env → St → Prop),
    (∀ (h : (F.map (alive d)).length = 16) env', look env' 2 = some (.ptr 0 0) → look env' 4 = some (.ptr 2 0) → Q (.ex 0) env' ⟨hVd (v.withF (F.map (alive d)) h) d z, []⟩) → W TVD ⟨[], 0⟩ LVd env ⟨hVd (v.withF L hL) d z, []⟩ Q := by
  intro k
  induction k with
  | zero =>
    intro i hk hi L hL env hLe h2 h4 h5 h32 h33 Q hQ
    have e : ¬ ((i : Int) < 16) := by omega
    have : L = F.map (alive d) := by rw [hLe, List.take_of_length_le (by omega), List.drop_eq_nil_of_le (by omega), List.append_nil]
    subst this
    rw [LVd_eq, W_loop]
    simp [-getElem?_pos, h2, h4, h5, h32, h33, e]
    refine hQ hL _ ?_ ?_ <;> simp [-getElem?_pos, h2, h4]
  | succ k ih =>
    intro i hk hi L hL env hLe h2 h4 h5 h32 h33 Q hQ
    have e : ((i : Int) < 16) := by omega
    have hi16 : i < 16 := by omega
    have hlt : i < F.length := by omega
    obtain ⟨n, hn⟩ : ∃ n, F[i]? = some n := ⟨_, List.getElem?_eq_getElem hlt⟩
    have hw := wrapN1 i (by omega)
    have hset := cs_layF v L hL i (alive d n) hi16
    have hlen := cs_length (v.withF L hL)
    have hcl := cs_lows (v.withF L hL)
    have hca := cs_all (v.withF L hL)
    have hal : ∀ N M, (v.withF L hL).cs.all (AV.lows N M) = true := hca
    have hnn : ((L.set i (alive d n))).length = 16 := by simp [hL]
    have hcl2 := cs_all (v.withF (L.set i (alive d n)) hnn)
    rw [LVd_eq, W_loop]
    simp [-getElem?_pos, h2, h4, h5, h32, h33, e, hi16, hn, hVd, -Int.natCast_add]
    refine alive_clo _ d z hzl ?_
    have h19 : 4 + i ≤ 19 := by omega
    simp [-getElem?_pos, h2, h4, h5, h32, h33, e, hi16, hn, hVd, hlen, h19, hset, -Int.natCast_add]
    refine (WL_of (c := LVd)).1 (ih (i + 1) (by omega) (by omega) _ hnn _ (by rw [hLe]; exact set_step d F i hn) ?_ ?_ ?_ ?_ ?_ Q hQ)
    · simp [-getElem?_pos, h2]
    · simp [-getElem?_pos, h4]
    · simp [-getElem?_pos, h5]
    · simp [-getElem?_pos, h32]
    · simp [-getElem?_pos, hw, -Int.natCast_add]
theorem view_Dead : Pure Tryd.prog 49 dead_F := by
  refine con TVD_ok rfl rfl fun ⟨v, d⟩ hv => ⟨rfl, ?_⟩
  haveI : Fact v.small := ⟨hv⟩
  haveI : Fact (v.lst.length ≤ 4294967296) := ⟨hv.2⟩
  haveI : Fact (v.base.length < 9223372036854775808) := ⟨v.hb⟩
  have hlen := cs_length v
  cases h1 : v.right with
  | false =>
    have hd : v.dead d = v := by simp [VW.dead, h1]
    simp [cf49, V_av, -getElem?_pos, h1, hd, cs_0, cs_1, cs_length, cs_take, cs_all, cs_lows, cs_drop20, cs_dats, if_pos (cs_cell2 v), -AV.isCell, isCell_d]
    try rfl
  | true =>
    cases h2 : decide (d ∈ v.base) with
    | true =>
      have hd : v.dead d = v := by simp [VW.dead, h1, h2]
      simp [cf49, V_av, -getElem?_pos, h1, h2, hd, cs_0, cs_1, cs_length, cs_take, cs_all, cs_lows, cs_drop20, cs_dats, if_pos (cs_cell2 v), -AV.isCell, isCell_d]
      try rfl
    | false =>
      simp [cf49, V_av, -getElem?_pos, h1, h2, cs_0, cs_1, cs_2, cs_length, cs_take, cs_all, cs_lows, cs_drop20, cs_layL _ _ (filter_63 _ v.hl), if_pos (cs_cell2 v), -AV.isCell, isCell_d]
      generalize hu : v.withL (List.filter (fun x => !x == d) v.lst) _ = u
      have hzz : ∀ N M, ([AV.d (Dat.int .i64 0), AV.nils, AV.nils, AV.d (Dat.int .i64 0), AV.d (Dat.int .i64 0), AV.d (Dat.int .i64 0), AV.d (Dat.int .i64 0), AV.d (Dat.int .i64 0), AV.d (Dat.int .i64 0), AV.d (Dat.int .i64 0), AV.d (Dat.int .i64 0), AV.d (Dat.int .i64 0), AV.d (Dat.int .i64 0), AV.d (Dat.int .i64 0), AV.d (Dat.int .i64 0), AV.d (Dat.int .i64 0), AV.d (Dat.int .i64 0), AV.d (Dat.int .i64 0), AV.d (Dat.int .i64 0), AV.d (Dat.int .i64 0)] : List AV).all (AV.lows N M) = true := fun _ _ => rfl
      simp [-getElem?_pos, cs_3]
      refine alive_clo u d _ hzz ?_
      have hul := cs_length u
      simp [-getElem?_pos, hVd, cs_layP, hul, cs_fin, cs_length, -AV.isCell, isCell_d]
      rw [WL_code]
      refine vdead_loop (u.withP (alive d u.pred)) d _ hzz u.fin u.hf 16 0 (by omega) (by omega) u.fin u.hf _ (by simp) ?_ ?_ ?_ ?_ ?_ _ (fun hf env' h2' h4' => ?_)
      all_goals (try (simp [-getElem?_pos, VW.withP]; done))
      have hfin : v.dead d = (u.withP (alive d u.pred)).withF (u.fin.map (alive d)) hf := by
        subst hu
        simp only [VW.dead, h1, h2, Bool.true_and, Bool.not_false, cond_true]
        rfl
      generalize hw : (u.withP (alive d u.pred)).withF (u.fin.map (alive d)) hf = w at hfin
      simp [-getElem?_pos, h2', h4', hVd, hw, hfin, cs_length, cs_take, cs_all, cs_lows, cs_drop20, cs_dats, if_pos (cs_cell2 w), -AV.isCell, isCell_d]
      try rfl
noncomputable abbrev view_Dead_F := dead_F
end Go.Proofs.YtfifgiopdbdeoaaDoor.Lite
namespace Go.Proofs.YtfifgiopdbdeoaaDoor.Lite
open Go
attribute [local simp] WL_of WL_nil WL_blk WL_skip WL_label WL_exit WL_goto WL_seq WL_block WL_cond WL_reg WL_ret WJ_nil WJ_ex WJ_gt WJ_rt WJ_exb WJ_gtb WJ_rtb WLO_nil WLO_call WO_nw stepN WO_mv WO_pick WO_new WO_box WO_ld WO_ldn WO_st WO_off WO_ixa WO_ixs WO_fld WO_fldn WO_ixv WO_ixvn WO_ixb WO_bin WO_eqb WO_isn WO_eqs WO_not WO_conv WO_mkf WO_bld WO_bls WO_sla WO_sls WO_sl0 WO_len WO_app WO_mnx WO_ext WO_nilc wants_none wants_some wantv_b wantv_t WLV_true WLV_false WLC_false WLB_true WLB_false evX_t evX_c evXs_nil evXs_cons look_put look_putN look_cons look_arg0 look_arg stepK binOpA intOp strOp evRes oneOf outs gc toDV AV.dat? I Bo av_s List.map List.append_nil getO putO AV.cellsOf bne WL_dreg WLP_nil WLP_call WP_mv WP_pick WP_new WP_box WP_ld WP_ldn WP_off WP_ixa WP_ixs WP_fld WP_fldn WP_ixv WP_ixvn WP_ixb WP_bin WP_eqb WP_isn WP_eqs WP_not WP_conv WP_mkf WP_bld WP_bls WP_sla WP_sls WP_sl0 WP_len WP_app WP_mnx WP_ext WP_nilc WLPV_true WLPV_false WLPC_false WLC_tells WLPC_tells padH onNm onEx List.getElem?_cons_zero List.getElem?_cons_succ List.getElem?_nil restrict AV.lows lay AV.isCell lowObj AObj.lows WJ_nm AV.lows.go WL_scope onGt_rt onGt_nm onGt_ex WL_sreg WP_st preSt eraseB List.set_cons_zero List.set_cons_succ frz cutR cutAs cutA WL_sregT cutB cutBs

noncomputable def TRD : Tbl := tbl [(28, garlandref13_Own_F), (22, garlandref13_Right_F), (60, garlandref12_Drop_F)]
theorem TRD_ok : TblOK Tryd.prog TRD := tbl_ok (by
  simp only [List.mem_cons, List.not_mem_nil, or_false]
  rintro p (rfl | rfl | rfl)
  · exact garlandref13_Own
  · exact garlandref13_Right
  · exact garlandref12_Drop)
instance : Has TRD 28 garlandref13_Own_F := ⟨rfl⟩
instance : Has TRD 22 garlandref13_Right_F := ⟨rfl⟩
instance : Has TRD 60 garlandref12_Drop_F := ⟨rfl⟩

def hRd (u : VW) (z : List AV) : Heap := [some (.cells u.cs), some (.cells z)]
def LRa : CCode := (.loop [1, 2, 4, 5] (.seq (.seq (.reg (⟨(some 13), .mv (.t 5), none⟩ ::
    ⟨(some 14), .off 1 (.t 2), none⟩ ::
    ⟨(some 15), .ld (.t 14), none⟩ ::
    ⟨(some 16), .len false (.t 15), none⟩ ::
    ⟨(some 17), .bin .lss (.t 13) (.t 16), none⟩ ::
    []))
  (.cond (.t 17) .skip (.exit 0)))
  (.seq (.block 1 (.seq (.reg (⟨(some 20), .off 1 (.t 2), none⟩ ::
    ⟨(some 21), .ld (.t 20), none⟩ ::
    ⟨(some 22), .mv (.t 5), none⟩ ::
    ⟨(some 23), .ixs 1 (.t 21) (.t 22), none⟩ ::
    ⟨(some 24), .ld (.t 23), none⟩ ::
    ⟨(some 25), .mv (.t 1), none⟩ ::
    ⟨(some 26), .bin .eql (.t 24) (.t 25), none⟩ ::
    []))
  (.cond (.t 26) (.seq (.reg (⟨(some 27), .ldn 20 (.t 2), none⟩ ::
    ⟨none, .st 20 (.t 4) (.t 27), none⟩ ::
    []))
  .ret) .skip)))
  (.reg (⟨(some 18), .mv (.t 5), none⟩ ::
    ⟨(some 19), .bin .add (.t 18) (.c (.d (.int .i64 1))), none⟩ ::
    ⟨(some 5), .mv (.t 19), none⟩ ::
    [])))))
theorem LRa_eq : LRa = .loop [1, 2, 4, 5] (.seq (.seq (.reg (⟨(some 13), .mv (.t 5), none⟩ ::
    ⟨(some 14), .off 1 (.t 2), none⟩ ::
    ⟨(some 15), .ld (.t 14), none⟩ ::
    ⟨(some 16), .len false (.t 15), none⟩ ::
    ⟨(some 17), .bin .lss (.t 13) (.t 16), none⟩ ::
    []))
  (.cond (.t 17) .skip (.exit 0)))
  (.seq (.block 1 (.seq (.reg (⟨(some 20), .off 1 (.t 2), none⟩ ::
    ⟨(some 21), .ld (.t 20), none⟩ ::
    ⟨(some 22), .mv (.t 5), none⟩ ::
    ⟨(some 23), .ixs 1 (.t 21) (.t 22), none⟩ ::
    ⟨(some 24), .ld (.t 23), none⟩ ::
    ⟨(some 25), .mv (.t 1), none⟩ ::
    ⟨(some 26), .bin .eql (.t 24) (.t 25), none⟩ ::
    []))
  (.cond (.t 26) (.seq (.reg (⟨(some 27), .ldn 20 (.t 2), none⟩ ::
    ⟨none, .st 20 (.t 4) (.t 27), none⟩ ::
    []))
  .ret) .skip)))
  (.reg (⟨(some 18), .mv (.t 5), none⟩ ::
    ⟨(some 19), .bin .add (.t 18) (.c (.d (.int .i64 1))), none⟩ ::
    ⟨(some 5), .mv (.t 19), none⟩ ::
    [])))) := rfl
theorem rdead_base (v : VW) (d : Int) (z : List AV) (hz : z.length = 20) : ∀ (k i : Nat), v.base.length - i = k → i ≤ v.base.length → ∀ (env : Env), look env 1 = some (.d (.int .i64 d)) → look env 2 = some (.ptr 0 0) → look env 4 = some (.ptr 1 0) → look env 5 = some (.d (.int .i64 i)) →
    ∀ (Q : Ex → Env → St → Prop), ((∀ n ∈ v.base.drop i, n ≠ d) → ∀ env', look env' 1 = some (.d (.int .i64 d)) → look env' 2 = some (.ptr 0 0) → look env' 4 = some (.ptr 1 0) → Q (.ex 0) env' ⟨hRd v z, []⟩) →
      (d ∈ v.base.drop i → ∀ env', look env' 4 = some (.ptr 1 0) → Q .rt env' ⟨[some (.cells v.cs), some (.cells v.cs)], []⟩) → W TRD ⟨[], 0⟩ LRa env ⟨hRd v z, []⟩ Q := by
  have hl := v.hb
  intro k
  induction k with
  | zero =>
    intro i hk hi env h1 h2 h4 h5 Q hQ1 hQ2
    have hlt : ¬ i < v.base.length := by omega
    rw [LRa_eq, W_loop]
    simp [-getElem?_pos, h1, h2, h4, h5, hRd, cs_1, stepK.lenA, rowsI_length, hlt]
    refine hQ1 (fun n hn => ?_) _ ?_ ?_ ?_
    · rw [List.drop_eq_nil_of_le (by omega)] at hn; cases hn
    all_goals simp [-getElem?_pos, h1, h2, h4]
  | succ k ih =>
    intro i hk hi env h1 h2 h4 h5 Q hQ1 hQ2
    have hlt : i < v.base.length := by omega
    obtain ⟨n, hn⟩ : ∃ n, v.base[i]? = some n := ⟨_, List.getElem?_eq_getElem hlt⟩
    have hd : v.base.drop i = n :: v.base.drop (i + 1) := by rw [List.drop_eq_getElem_cons hlt]; congr 1; exact (List.getElem?_eq_some_iff.1 hn).2
    have hw := wrapN1 i (by omega)
    have hz0 : z.drop 20 = [] := List.drop_eq_nil_of_le (by omega)
    rw [hd] at hQ1 hQ2
    rw [LRa_eq, W_loop]
    by_cases e : n = d
    · have e2 : (n == d) = true := by simp [e]
      simp [-getElem?_pos, h1, h2, h4, h5, hRd, cs_1, stepK.lenA, rowsI_length, rowsI_get, hn, hlt, e2, hz, hz0, cs_length, cs_take, cs_drop20, if_pos (cs_cell2 v), -AV.isCell, isCell_d, -Int.natCast_add]
      exact hQ2 (by rw [← e]; simp) _ (by simp [-getElem?_pos, h4])
    · have e2 : (n == d) = false := by simpa using e
      simp [-getElem?_pos, h1, h2, h4, h5, hRd, cs_1, stepK.lenA, rowsI_length, rowsI_get, hn, hlt, e2, -Int.natCast_add]
      refine (WL_of (c := LRa)).1 (ih (i + 1) (by omega) (by omega) _ ?_ ?_ ?_ ?_ Q (fun hall => hQ1 fun m hm => ?_) (fun hm => hQ2 (List.mem_cons_of_mem _ hm)))
      · simp [-getElem?_pos, h1]
      · simp [-getElem?_pos, h2]
      · simp [-getElem?_pos, h4]
      · simp [-getElem?_pos, hw, -Int.natCast_add]
      · rcases List.mem_cons.1 hm with rfl | hm
        · exact e
        · exact hall m hm
theorem cs_4f (v : VW) (L : List Int) (h : L.length = 16) (i : Nat) : (v.withF L h).cs[4 + i]? = (L[i]?).map fun n => .d (.int .i64 n) := cs_4 (v.withF L h) i
def LRb : CCode := (.loop [1, 2, 4, 6] (.seq (.seq (.reg (⟨(some 38), .mv (.t 6), none⟩ ::
    ⟨(some 39), .bin .lss (.t 38) (.c (.d (.int .i64 16))), none⟩ ::
    []))
  (.cond (.t 39) .skip (.exit 2)))
  (.seq (.block 3 (.seq (.reg (⟨(some 42), .mv (.t 6), none⟩ ::
    ⟨(some 43), .off 4 (.t 2), none⟩ ::
    ⟨(some 44), .ixa 16 1 (.t 43) (.t 42), none⟩ ::
    ⟨(some 45), .ld (.t 44), none⟩ ::
    ⟨(some 46), .mv (.t 1), none⟩ ::
    ⟨(some 47), .bin .eql (.t 45) (.t 46), none⟩ ::
    []))
  (.cond (.t 47) (.reg (⟨(some 48), .mv (.t 6), none⟩ ::
    ⟨(some 49), .off 4 (.t 2), none⟩ ::
    ⟨(some 50), .ixa 16 1 (.t 49) (.t 48), none⟩ ::
    ⟨none, .st 1 (.t 50) (.c (.d (.int .i64 (-1)))), none⟩ ::
    [])) .skip)))
  (.reg (⟨(some 40), .mv (.t 6), none⟩ ::
    ⟨(some 41), .bin .add (.t 40) (.c (.d (.int .i64 1))), none⟩ ::
    ⟨(some 6), .mv (.t 41), none⟩ ::
    [])))))
theorem LRb_eq : LRb = .loop [1, 2, 4, 6] (.seq (.seq (.reg (⟨(some 38), .mv (.t 6), none⟩ ::
    ⟨(some 39), .bin .lss (.t 38) (.c (.d (.int .i64 16))), none⟩ ::
    []))
  (.cond (.t 39) .skip (.exit 2)))
  (.seq (.block 3 (.seq (.reg (⟨(some 42), .mv (.t 6), none⟩ ::
    ⟨(some 43), .off 4 (.t 2), none⟩ ::
    ⟨(some 44), .ixa 16 1 (.t 43) (.t 42), none⟩ ::
    ⟨(some 45), .ld (.t 44), none⟩ ::
    ⟨(some 46), .mv (.t 1), none⟩ ::
    ⟨(some 47), .bin .eql (.t 45) (.t 46), none⟩ ::
    []))
  (.cond (.t 47) (.reg (⟨(some 48), .mv (.t 6), none⟩ ::
    ⟨(some 49), .off 4 (.t 2), none⟩ ::
    ⟨(some 50), .ixa 16 1 (.t 49) (.t 48), none⟩ ::
    ⟨none, .st 1 (.t 50) (.c (.d (.int .i64 (-1)))), none⟩ ::
    [])) .skip)))
  (.reg (⟨(some 40), .mv (.t 6), none⟩ ::
    ⟨(some 41), .bin .add (.t 40) (.c (.d (.int .i64 1))), none⟩ ::
    ⟨(some 6), .mv (.t 41), none⟩ ::
    [])))) := rfl
theorem rdead_loop (v : VW) (d : Int) (z : List AV) (F : List Int) (hF : F.length = 16) : ∀ (k i : Nat), 16 - i = k → i ≤ 16 → ∀ (L : List Int) (hL : L.length = 16) (env : Env), L = (F.take i).map (alive d) ++ F.drop i → look env 1 = some (.d (.int .i64 d)) → look env 2 = some (.ptr 0 0) → look env 4 = some (.ptr 1 0) →
    look env 6 = some (.d (.int .i64 i)) → ∀ (Q : Ex → Env → St → Prop),
    (∀ (h : (F.map (alive d)).length = 16) env', look env' 2 = some (.ptr 0 0) → look env' 4 = some (.ptr 1 0) → Q (.ex 2) env' ⟨hRd (v.withF (F.map (alive d)) h) z, []⟩) → W TRD ⟨[], 0⟩ LRb env ⟨hRd (v.withF L hL) z, []⟩ Q := by
  intro k
  induction k with
  | zero =>
    intro i hk hi L hL env hLe h1 h2 h4 h6 Q hQ
    have e : ¬ ((i : Int) < 16) := by omega
    have : L = F.map (alive d) := by rw [hLe, List.take_of_length_le (by omega), List.drop_eq_nil_of_le (by omega), List.append_nil]
    subst this
    rw [LRb_eq, W_loop]
    simp [-getElem?_pos, h1, h2, h4, h6, e]
    refine hQ hL _ ?_ ?_ <;> simp [-getElem?_pos, h2, h4]
  | succ k ih =>
    intro i hk hi L hL env hLe h1 h2 h4 h6 Q hQ
    have e : ((i : Int) < 16) := by omega
    have hi16 : i < 16 := by omega
    have hlt : i < F.length := by omega
    obtain ⟨n, hn⟩ : ∃ n, F[i]? = some n := ⟨_, List.getElem?_eq_getElem hlt⟩
    have hLi : L[i]? = some n := by
      have hl : ((F.take i).map (alive d)).length = i := by simp; omega
      rw [hLe, List.getElem?_append_right (by omega), hl, Nat.sub_self, List.getElem?_drop]; simpa using hn
    have hw := wrapN1 i (by omega)
    have h19 : 4 + i ≤ 19 := by omega
    have hlen := cs_length (v.withF L hL)
    by_cases en : n = d
    · have e2 : (n == d) = true := by simp [en]
      have hal : alive d n = -1 := by simp [alive, e2]
      have hset := cs_layF v L hL i (alive d n) hi16
      have hstep := set_step d F i hn
      rw [← hLe] at hstep
      rw [hal] at hset hstep
      have hnn : ((L.set i (-1))).length = 16 := by simp [hL]
      rw [LRb_eq, W_loop]
      simp [-getElem?_pos, h1, h2, h4, h6, e, hi16, hRd, cs_4f, hLi, e2, hlen, h19, hset, -AV.isCell, isCell_d, -Int.natCast_add]
      refine (WL_of (c := LRb)).1 (ih (i + 1) (by omega) (by omega) _ hnn _ hstep ?_ ?_ ?_ ?_ Q hQ)
      · simp [-getElem?_pos, h1]
      · simp [-getElem?_pos, h2]
      · simp [-getElem?_pos, h4]
      · simp [-getElem?_pos, hw, -Int.natCast_add]
    · have e2 : (n == d) = false := by simpa using en
      have hal : alive d n = n := by simp [alive, e2]
      have hstep := set_step d F i hn
      rw [← hLe, hal, show L.set i n = L from by rw [List.set_eq_take_append_cons_drop, if_pos (by omega)]; have := List.drop_eq_getElem_cons (l := L) (i := i) (by omega); rw [← (List.getElem?_eq_some_iff.1 hLi).2, ← this, List.take_append_drop]] at hstep
      rw [LRb_eq, W_loop]
      simp [-getElem?_pos, h1, h2, h4, h6, e, hi16, hRd, cs_4f, hLi, e2, hlen, h19, -Int.natCast_add]
      refine (WL_of (c := LRb)).1 (ih (i + 1) (by omega) (by omega) _ hL _ hstep ?_ ?_ ?_ ?_ Q hQ)
      · simp [-getElem?_pos, h1]
      · simp [-getElem?_pos, h2]
      · simp [-getElem?_pos, h4]
      · simp [-getElem?_pos, hw, -Int.natCast_add]
theorem garlandref13_Dead : Pure Tryd.prog 29 dead_F := by
  refine con TRD_ok rfl rfl fun ⟨v, d⟩ hv => ⟨rfl, ?_⟩
  haveI : Fact v.small := ⟨hv⟩
  haveI : Fact (v.lst.length ≤ 4294967296) := ⟨hv.2⟩
  have hlen := cs_length v
  cases h1 : v.right with
  | false =>
    have hd : v.dead d = v := by simp [VW.dead, h1]
    simp [cf29, V_av, -getElem?_pos, h1, hd, cs_0, cs_1, cs_length, cs_take, cs_all, cs_lows, cs_drop20, cs_dats, if_pos (cs_cell2 v), -AV.isCell, isCell_d]
    try rfl
  | true =>
    simp [cf29, V_av, -getElem?_pos, h1, cs_0, cs_1, cs_2, cs_length, cs_take, cs_all, cs_lows, cs_drop20, if_pos (cs_cell2 v), -AV.isCell, isCell_d]
    rw [WL_code]
    refine rdead_base v d _ rfl v.base.length 0 (by omega) (by omega) _ ?_ ?_ ?_ ?_ _ (fun hall env' g1 g2 g4 => ?_) (fun hmem env' g4 => ?_)
    all_goals (try (simp [-getElem?_pos]; done))
    · have hm : decide (d ∈ v.base) = false := by
        rw [decide_eq_false_iff_not]; intro h; exact hall d (by simpa using h) rfl
      simp [-getElem?_pos, hRd, g1, g2, g4, cs_2, cs_length, cs_layL _ _ (filter_63 _ v.hl), -AV.isCell, isCell_d]
      generalize hu : v.withL (List.filter (fun x => !x == d) v.lst) _ = u
      have hul := cs_length u
      have hend : ∀ (_ : True) (hf : (u.fin.map (alive d)).length = 16) (w : VW), (u.withP (alive d u.pred)).withF (u.fin.map (alive d)) hf = w → v.dead d = w := fun _ hf w hw => by
        rw [← hw]; subst hu
        simp only [VW.dead, h1, hm, Bool.true_and, Bool.not_false, cond_true]
        rfl
      cases hp : u.pred == d with
      | true =>
        have hal : alive d u.pred = -1 := by simp [alive, hp]
        rw [hal] at hend
        simp [-getElem?_pos, cs_3, g1, g2, g4, hp, hul, cs_layP, -AV.isCell, isCell_d]
        rw [WL_code]
        refine rdead_loop (u.withP (-1)) d _ u.fin u.hf 16 0 (by omega) (by omega) u.fin u.hf _ (by simp) ?_ ?_ ?_ ?_ _ (fun hf env2 k2 k4 => ?_)
        all_goals (try (simp [-getElem?_pos, g1, g2, g4]; done))
        generalize hw : (u.withP (-1)).withF (u.fin.map (alive d)) hf = w
        have hfin := hend trivial hf w hw
        simp [-getElem?_pos, k2, k4, hRd, hw, hfin, cs_length, cs_take, cs_all, cs_lows, cs_drop20, cs_dats, if_pos (cs_cell2 w), -AV.isCell, isCell_d]
        try rfl
      | false =>
        have hal : alive d u.pred = u.pred := by simp [alive, hp]
        rw [hal] at hend
        simp [-getElem?_pos, cs_3, g1, g2, g4, hp, hul, cs_layP, -AV.isCell, isCell_d]
        rw [WL_code]
        refine rdead_loop (u.withP u.pred) d _ u.fin u.hf 16 0 (by omega) (by omega) u.fin u.hf _ (by simp) ?_ ?_ ?_ ?_ _ (fun hf env2 k2 k4 => ?_)
        all_goals (try (simp [-getElem?_pos, g1, g2, g4]; done))
        generalize hw : (u.withP u.pred).withF (u.fin.map (alive d)) hf = w
        have hfin := hend trivial hf w hw
        simp [-getElem?_pos, k2, k4, hRd, hw, hfin, cs_length, cs_take, cs_all, cs_lows, cs_drop20, cs_dats, if_pos (cs_cell2 w), -AV.isCell, isCell_d]
        try rfl
    · have hm : decide (d ∈ v.base) = true := by simpa using hmem
      have hd : v.dead d = v := by simp [VW.dead, h1, hm]
      simp [-getElem?_pos, g4, hd, cs_length, cs_take, cs_all, cs_lows, cs_dats]
      try rfl
noncomputable abbrev garlandref13_Dead_F := dead_F
end Go.Proofs.YtfifgiopdbdeoaaDoor.Lite
namespace Go.Proofs.YtfifgiopdbdeoaaDoor.Lite
open Go
attribute [local simp] WL_of WL_nil WL_blk WL_skip WL_label WL_exit WL_goto WL_seq WL_block WL_cond WL_reg WL_ret WJ_nil WJ_ex WJ_gt WJ_rt WJ_exb WJ_gtb WJ_rtb WLO_nil WLO_call WO_nw stepN WO_mv WO_pick WO_new WO_box WO_ld WO_ldn WO_st WO_off WO_ixa WO_ixs WO_fld WO_fldn WO_ixv WO_ixvn WO_ixb WO_bin WO_eqb WO_isn WO_eqs WO_not WO_conv WO_mkf WO_bld WO_bls WO_sla WO_sls WO_sl0 WO_len WO_app WO_mnx WO_ext WO_nilc wants_none wants_some wantv_b wantv_t WLV_true WLV_false WLC_false WLB_true WLB_false evX_t evX_c evXs_nil evXs_cons look_put look_putN look_cons look_arg0 look_arg stepK binOpA intOp strOp evRes oneOf outs gc toDV AV.dat? I Bo av_s List.map List.append_nil getO putO AV.cellsOf bne WL_dreg WLP_nil WLP_call WP_mv WP_pick WP_new WP_box WP_ld WP_ldn WP_off WP_ixa WP_ixs WP_fld WP_fldn WP_ixv WP_ixvn WP_ixb WP_bin WP_eqb WP_isn WP_eqs WP_not WP_conv WP_mkf WP_bld WP_bls WP_sla WP_sls WP_sl0 WP_len WP_app WP_mnx WP_ext WP_nilc WLPV_true WLPV_false WLPC_false WLC_tells WLPC_tells padH onNm onEx List.getElem?_cons_zero List.getElem?_cons_succ List.getElem?_nil restrict AV.lows lay AV.isCell lowObj AObj.lows WJ_nm AV.lows.go WL_scope onGt_rt onGt_nm onGt_ex WL_sreg WP_st preSt eraseB List.set_cons_zero List.set_cons_succ frz cutR cutAs cutA WL_sregT cutB cutBs

noncomputable def skips_F := orcOf (fun p : Int × List Int × List Int => [I p.1, SI p.2.1, SI p.2.2]) (fun p => p.2.1.length < 9223372036854775807 ∧ p.2.2.length < 9223372036854775807) (fun p => [Bo (skipsL p.1 p.2.1 p.2.2)])
instance (x : Int) (l b : List Int) [h : Fact (l.length < 9223372036854775807)] [h2 : Fact (b.length < 9223372036854775807)] : Tells skips_F [.d (.int .i64 x), .d (.sl (rowsI l)), .d (.sl (rowsI b))] (.d (.bool (skipsL x l b))) :=
  ⟨[I x, SI l, SI b], [Bo (skipsL x l b)], fun _ => rfl, orcOf_eq (enc := fun p : Int × List Int × List Int => [I p.1, SI p.2.1, SI p.2.2]) (x := (x, l, b)) ⟨h.out, h2.out⟩ (fun y h => by
    simp only [I, SI, List.cons.injEq, DV.s.injEq, Dat.int.injEq, Dat.sl.injEq, true_and, and_true] at h
    exact Prod.ext h.1 (Prod.ext (rowsI_inj h.2.1) (rowsI_inj h.2.2))), rfl, rfl, fun _ _ => rfl⟩
noncomputable def TSK : Tbl := tbl [(27, garlandref03_In_F)]
theorem TSK_ok : TblOK Tryd.prog TSK := tbl_ok (by
  simp only [List.mem_cons, List.not_mem_nil, or_false]
  rintro p (rfl)
  · exact garlandref03_In)
instance : Has TSK 27 garlandref03_In_F := ⟨rfl⟩

def LKb : CCode := (.loop [1, 2, 7, 8, 9] (.seq (.seq (.reg (⟨(some 17), .mv (.t 9), none⟩ ::
    ⟨(some 18), .mv (.t 2), none⟩ ::
    ⟨(some 19), .len false (.t 18), none⟩ ::
    ⟨(some 20), .bin .lss (.t 17) (.t 19), none⟩ ::
    []))
  (.cond (.t 20) .skip (.exit 2)))
  (.seq (.block 3 (.seq (.dreg (⟨(some 23), .mv (.t 7), none⟩ ::
    ⟨(some 24), .mv (.t 2), none⟩ ::
    ⟨(some 25), .mv (.t 9), none⟩ ::
    ⟨(some 26), .ixs 1 (.t 24) (.t 25), none⟩ ::
    ⟨(some 27), .ld (.t 26), none⟩ ::
    ⟨(some 28), .mv (.t 1), none⟩ ::
    ⟨(some 29), .mv (.t 8), none⟩ ::
    ⟨(some 30), .ixs 1 (.t 28) (.t 29), none⟩ ::
    ⟨(some 31), .ld (.t 30), none⟩ ::
    []) (⟨(some 32), .call (.c (.fn 27 [])) [(.t 23), (.t 27), (.t 31)], none⟩ ::
    []))
  (.cond (.t 32) (.seq (.reg (⟨(some 6), .mv (.c (.d (.bool true))), none⟩ ::
    []))
  .ret) .skip)))
  (.reg (⟨(some 21), .mv (.t 9), none⟩ ::
    ⟨(some 22), .bin .add (.t 21) (.c (.d (.int .i64 1))), none⟩ ::
    ⟨(some 9), .mv (.t 22), none⟩ ::
    [])))))
theorem LKb_eq : LKb = .loop [1, 2, 7, 8, 9] (.seq (.seq (.reg (⟨(some 17), .mv (.t 9), none⟩ ::
    ⟨(some 18), .mv (.t 2), none⟩ ::
    ⟨(some 19), .len false (.t 18), none⟩ ::
    ⟨(some 20), .bin .lss (.t 17) (.t 19), none⟩ ::
    []))
  (.cond (.t 20) .skip (.exit 2)))
  (.seq (.block 3 (.seq (.dreg (⟨(some 23), .mv (.t 7), none⟩ ::
    ⟨(some 24), .mv (.t 2), none⟩ ::
    ⟨(some 25), .mv (.t 9), none⟩ ::
    ⟨(some 26), .ixs 1 (.t 24) (.t 25), none⟩ ::
    ⟨(some 27), .ld (.t 26), none⟩ ::
    ⟨(some 28), .mv (.t 1), none⟩ ::
    ⟨(some 29), .mv (.t 8), none⟩ ::
    ⟨(some 30), .ixs 1 (.t 28) (.t 29), none⟩ ::
    ⟨(some 31), .ld (.t 30), none⟩ ::
    []) (⟨(some 32), .call (.c (.fn 27 [])) [(.t 23), (.t 27), (.t 31)], none⟩ ::
    []))
  (.cond (.t 32) (.seq (.reg (⟨(some 6), .mv (.c (.d (.bool true))), none⟩ ::
    []))
  .ret) .skip)))
  (.reg (⟨(some 21), .mv (.t 9), none⟩ ::
    ⟨(some 22), .bin .add (.t 21) (.c (.d (.int .i64 1))), none⟩ ::
    ⟨(some 9), .mv (.t 22), none⟩ ::
    [])))) := rfl
theorem skip_in (l b : List Int) (a n : Int) (j : Nat) (hj : l[j]? = some n) (hb : b.length < 9223372036854775807) : ∀ (k i : Nat), b.length - i = k → i ≤ b.length → ∀ (env : Env), look env 1 = some (vsI l) → look env 2 = some (vsI b) → look env 7 = some (.d (.int .i64 a)) → look env 8 = some (.d (.int .i64 j)) → look env 9 = some (.d (.int .i64 i)) →
    ∀ (Q : Ex → Env → St → Prop), ((b.drop i).any (fun x => inB a x n) = false → ∀ env', look env' 1 = some (vsI l) → look env' 2 = some (vsI b) → look env' 7 = some (.d (.int .i64 a)) → look env' 8 = some (.d (.int .i64 j)) → Q (.ex 2) env' ⟨[], []⟩) →
      ((b.drop i).any (fun x => inB a x n) = true → ∀ env' h', look env' 6 = some (.d (.bool true)) → Q .rt env' ⟨h', []⟩) → W TSK ⟨[], 0⟩ LKb env ⟨[], []⟩ Q := by
  intro k
  induction k with
  | zero =>
    intro i hk hi env h1 h2 h7 h8 h9 Q hQ1 hQ2
    have hlt : ¬ i < b.length := by omega
    rw [LKb_eq, W_loop]
    simp [-getElem?_pos, h1, h2, h7, h8, h9, stepK.lenA, rowsI_length, hlt]
    refine hQ1 (by rw [List.drop_eq_nil_of_le (by omega)]; rfl) _ ?_ ?_ ?_ ?_ <;> simp [-getElem?_pos, h1, h2, h7, h8]
  | succ k ih =>
    intro i hk hi env h1 h2 h7 h8 h9 Q hQ1 hQ2
    have hlt : i < b.length := by omega
    obtain ⟨m, hm⟩ : ∃ m, b[i]? = some m := ⟨_, List.getElem?_eq_getElem hlt⟩
    have hd : b.drop i = m :: b.drop (i + 1) := by rw [List.drop_eq_getElem_cons hlt]; congr 1; exact (List.getElem?_eq_some_iff.1 hm).2
    have hw := wrapN1 i (by omega)
    rw [hd] at hQ1 hQ2
    simp only [List.any_cons] at hQ1 hQ2
    rw [LKb_eq, W_loop]
    cases hin : inB a m n with
    | true =>
      simp [-getElem?_pos, h1, h2, h7, h8, h9, stepK.lenA, rowsI_length, rowsI_get, hlt, hm, hj, hin, -Int.natCast_add]
      exact hQ2 (by rw [hin]; rfl) _ _ (by simp [-getElem?_pos])
    | false =>
      rw [hin, Bool.false_or] at hQ1 hQ2
      simp [-getElem?_pos, h1, h2, h7, h8, h9, stepK.lenA, rowsI_length, rowsI_get, hlt, hm, hj, hin, -Int.natCast_add]
      refine (WL_of (c := LKb)).1 (ih (i + 1) (by omega) (by omega) _ ?_ ?_ ?_ ?_ ?_ Q hQ1 hQ2)
      · simp [-getElem?_pos, h1]
      · simp [-getElem?_pos, h2]
      · simp [-getElem?_pos, h7]
      · simp [-getElem?_pos, h8]
      · simp [-getElem?_pos, hw, -Int.natCast_add]
def LKa : CCode := (.loop [1, 2, 7, 8] (.seq (.seq (.reg (⟨(some 11), .mv (.t 8), none⟩ ::
    ⟨(some 12), .mv (.t 1), none⟩ ::
    ⟨(some 13), .len false (.t 12), none⟩ ::
    ⟨(some 14), .bin .lss (.t 11) (.t 13), none⟩ ::
    []))
  (.cond (.t 14) .skip (.exit 0)))
  (.seq (.block 1 (.seq (.seq (.reg (⟨(some 9), .mv (.c (.d (.int .i64 0))), none⟩ ::
    []))
  (.block 2 (.loop [1, 2, 7, 8, 9] (.seq (.seq (.reg (⟨(some 17), .mv (.t 9), none⟩ ::
    ⟨(some 18), .mv (.t 2), none⟩ ::
    ⟨(some 19), .len false (.t 18), none⟩ ::
    ⟨(some 20), .bin .lss (.t 17) (.t 19), none⟩ ::
    []))
  (.cond (.t 20) .skip (.exit 2)))
  (.seq (.block 3 (.seq (.dreg (⟨(some 23), .mv (.t 7), none⟩ ::
    ⟨(some 24), .mv (.t 2), none⟩ ::
    ⟨(some 25), .mv (.t 9), none⟩ ::
    ⟨(some 26), .ixs 1 (.t 24) (.t 25), none⟩ ::
    ⟨(some 27), .ld (.t 26), none⟩ ::
    ⟨(some 28), .mv (.t 1), none⟩ ::
    ⟨(some 29), .mv (.t 8), none⟩ ::
    ⟨(some 30), .ixs 1 (.t 28) (.t 29), none⟩ ::
    ⟨(some 31), .ld (.t 30), none⟩ ::
    []) (⟨(some 32), .call (.c (.fn 27 [])) [(.t 23), (.t 27), (.t 31)], none⟩ ::
    []))
  (.cond (.t 32) (.seq (.reg (⟨(some 6), .mv (.c (.d (.bool true))), none⟩ ::
    []))
  .ret) .skip)))
  (.reg (⟨(some 21), .mv (.t 9), none⟩ ::
    ⟨(some 22), .bin .add (.t 21) (.c (.d (.int .i64 1))), none⟩ ::
    ⟨(some 9), .mv (.t 22), none⟩ ::
    [])))))))
  (.reg (⟨(some 33), .mv (.t 1), none⟩ ::
    ⟨(some 34), .mv (.t 8), none⟩ ::
    ⟨(some 35), .ixs 1 (.t 33) (.t 34), none⟩ ::
    ⟨(some 36), .ld (.t 35), none⟩ ::
    ⟨(some 7), .mv (.t 36), none⟩ ::
    []))))
  (.reg (⟨(some 15), .mv (.t 8), none⟩ ::
    ⟨(some 16), .bin .add (.t 15) (.c (.d (.int .i64 1))), none⟩ ::
    ⟨(some 8), .mv (.t 16), none⟩ ::
    [])))))
theorem LKa_eq : LKa = .loop [1, 2, 7, 8] (.seq (.seq (.reg (⟨(some 11), .mv (.t 8), none⟩ ::
    ⟨(some 12), .mv (.t 1), none⟩ ::
    ⟨(some 13), .len false (.t 12), none⟩ ::
    ⟨(some 14), .bin .lss (.t 11) (.t 13), none⟩ ::
    []))
  (.cond (.t 14) .skip (.exit 0)))
  (.seq (.block 1 (.seq (.seq (.reg (⟨(some 9), .mv (.c (.d (.int .i64 0))), none⟩ ::
    []))
  (.block 2 (.loop [1, 2, 7, 8, 9] (.seq (.seq (.reg (⟨(some 17), .mv (.t 9), none⟩ ::
    ⟨(some 18), .mv (.t 2), none⟩ ::
    ⟨(some 19), .len false (.t 18), none⟩ ::
    ⟨(some 20), .bin .lss (.t 17) (.t 19), none⟩ ::
    []))
  (.cond (.t 20) .skip (.exit 2)))
  (.seq (.block 3 (.seq (.dreg (⟨(some 23), .mv (.t 7), none⟩ ::
    ⟨(some 24), .mv (.t 2), none⟩ ::
    ⟨(some 25), .mv (.t 9), none⟩ ::
    ⟨(some 26), .ixs 1 (.t 24) (.t 25), none⟩ ::
    ⟨(some 27), .ld (.t 26), none⟩ ::
    ⟨(some 28), .mv (.t 1), none⟩ ::
    ⟨(some 29), .mv (.t 8), none⟩ ::
    ⟨(some 30), .ixs 1 (.t 28) (.t 29), none⟩ ::
    ⟨(some 31), .ld (.t 30), none⟩ ::
    []) (⟨(some 32), .call (.c (.fn 27 [])) [(.t 23), (.t 27), (.t 31)], none⟩ ::
    []))
  (.cond (.t 32) (.seq (.reg (⟨(some 6), .mv (.c (.d (.bool true))), none⟩ ::
    []))
  .ret) .skip)))
  (.reg (⟨(some 21), .mv (.t 9), none⟩ ::
    ⟨(some 22), .bin .add (.t 21) (.c (.d (.int .i64 1))), none⟩ ::
    ⟨(some 9), .mv (.t 22), none⟩ ::
    [])))))))
  (.reg (⟨(some 33), .mv (.t 1), none⟩ ::
    ⟨(some 34), .mv (.t 8), none⟩ ::
    ⟨(some 35), .ixs 1 (.t 33) (.t 34), none⟩ ::
    ⟨(some 36), .ld (.t 35), none⟩ ::
    ⟨(some 7), .mv (.t 36), none⟩ ::
    []))))
  (.reg (⟨(some 15), .mv (.t 8), none⟩ ::
    ⟨(some 16), .bin .add (.t 15) (.c (.d (.int .i64 1))), none⟩ ::
    ⟨(some 8), .mv (.t 16), none⟩ ::
    [])))) := rfl
theorem skip_out (l b : List Int) (hl : l.length < 9223372036854775807) (hb : b.length < 9223372036854775807) : ∀ (k i : Nat), l.length - i = k → i ≤ l.length → ∀ (a : Int) (env : Env), look env 1 = some (vsI l) → look env 2 = some (vsI b) → look env 7 = some (.d (.int .i64 a)) → look env 8 = some (.d (.int .i64 i)) →
    ∀ (Q : Ex → Env → St → Prop), (skipsL a (l.drop i) b = false → ∀ env', Q (.ex 0) env' ⟨[], []⟩) → (skipsL a (l.drop i) b = true → ∀ env' h', look env' 6 = some (.d (.bool true)) → Q .rt env' ⟨h', []⟩) → W TSK ⟨[], 0⟩ LKa env ⟨[], []⟩ Q := by
  intro k
  induction k with
  | zero =>
    intro i hk hi a env h1 h2 h7 h8 Q hQ1 hQ2
    have hlt : ¬ i < l.length := by omega
    rw [LKa_eq, W_loop]
    simp [-getElem?_pos, h1, h2, h7, h8, stepK.lenA, rowsI_length, hlt]
    exact hQ1 (by rw [List.drop_eq_nil_of_le (by omega)]; rfl) _
  | succ k ih =>
    intro i hk hi a env h1 h2 h7 h8 Q hQ1 hQ2
    have hlt : i < l.length := by omega
    obtain ⟨n, hn⟩ : ∃ n, l[i]? = some n := ⟨_, List.getElem?_eq_getElem hlt⟩
    have hd : l.drop i = n :: l.drop (i + 1) := by rw [List.drop_eq_getElem_cons hlt]; congr 1; exact (List.getElem?_eq_some_iff.1 hn).2
    have hw := wrapN1 i (by omega)
    rw [hd] at hQ1 hQ2
    simp only [skipsL] at hQ1 hQ2
    rw [LKa_eq, W_loop]
    simp [-getElem?_pos, h1, h2, h7, h8, stepK.lenA, rowsI_length, hlt, -Int.natCast_add]
    rw [WL_code]
    refine skip_in l b a n i hn hb b.length 0 (by omega) (by omega) _ ?_ ?_ ?_ ?_ ?_ _ (fun hno env' g1 g2 g7 g8 => ?_) (fun hyes env' h' g6 => ?_)
    all_goals (try (simp [-getElem?_pos, h1, h2, h7, h8, -Int.natCast_add]; done))
    · rw [List.drop_zero] at hno
      rw [hno, Bool.false_or] at hQ1 hQ2
      simp [-getElem?_pos, g1, g2, g7, g8, rowsI_get, hn, -Int.natCast_add]
      refine (WL_of (c := LKa)).1 (ih (i + 1) (by omega) (by omega) n _ ?_ ?_ ?_ ?_ Q hQ1 hQ2)
      all_goals (simp [-getElem?_pos, g1, g2, g7, g8, hw, -Int.natCast_add])
    · rw [List.drop_zero] at hyes
      simp [-getElem?_pos, -Int.natCast_add]
      exact hQ2 (by rw [hyes]; rfl) _ _ g6
theorem garlandref12_Skips : Pure Tryd.prog 23 skips_F := by
  refine con TSK_ok rfl rfl fun ⟨x, l, b⟩ hl => ⟨rfl, ?_⟩
  simp [cf23, -getElem?_pos, SI]
  rw [WL_code]
  refine skip_out l b hl.1 hl.2 l.length 0 (by omega) (by omega) x _ ?_ ?_ ?_ ?_ _ (fun h env' => ?_) (fun h env' h' h6 => ?_)
  all_goals (try (simp [-getElem?_pos]; done))
  · rw [List.drop_zero] at h
    simp [-getElem?_pos, h]
  · rw [List.drop_zero] at h
    simp [-getElem?_pos, h, h6]
noncomputable abbrev garlandref12_Skips_F := skips_F
end Go.Proofs.YtfifgiopdbdeoaaDoor.Lite
