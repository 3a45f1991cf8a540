/- StabEnds: whatever the view, what is told one behind the other: the law is true, and its arguments stay as they were; the card ties stab.phases to the text. No condition but the card own. -/
import Derived.KernelRfl
import Derived.Test.YtfifgiopdbdeoaaDoorTie
import Derived.Test.YtfifgiopdbdeoaaDoorCards
import Derived.LaidMore
import Derived.OpenShut
import Derived.Stop.Joined
import Derived.WalkKit
import Derived.ProofKit
import Derived.ShutString
import Derived.SizedLaws
import Derived.Carry
import Derived.Test.YtfifgiopdbdeoaaDoorRows
import Derived.SevenTiedAt
import Derived.Test.YtfifgiopdbdeoaaDoorHc2
import Derived.Test.YtfifgiopdbdeoaaDoorHc5
import Derived.Test.YtfifgiopdbdeoaaDoorHc6
set_option linter.unusedSimpArgs false
set_option linter.unusedVariables false
namespace Go.Proofs.YtfifgiopdbdeoaaDoor.Lite
open Go
attribute [local simp] WL_of WL_nil WL_blk WL_skip WL_label WL_exit WL_goto WL_seq WL_block WL_cond WL_reg WL_ret WJ_nil WJ_ex WJ_gt WJ_rt WJ_exb WJ_gtb WJ_rtb WLO_nil WLO_call WO_nw stepN WO_mv WO_pick WO_new WO_box WO_ld WO_ldn WO_st WO_off WO_ixa WO_ixs WO_fld WO_fldn WO_ixv WO_ixvn WO_ixb WO_bin WO_eqb WO_isn WO_eqs WO_not WO_conv WO_mkf WO_bld WO_bls WO_sla WO_sls WO_sl0 WO_len WO_app WO_mnx WO_ext WO_nilc wants_none wants_some wantv_b wantv_t WLV_true WLV_false WLC_false WLB_true WLB_false evX_t evX_c evXs_nil evXs_cons look_put look_putN look_cons look_arg0 look_arg stepK binOpA intOp strOp evRes oneOf outs gc toDV AV.dat? I Bo av_s List.map List.append_nil getO putO AV.cellsOf bne WL_dreg WLP_nil WLP_call WP_mv WP_pick WP_new WP_box WP_ld WP_ldn WP_off WP_ixa WP_ixs WP_fld WP_fldn WP_ixv WP_ixvn WP_ixb WP_bin WP_eqb WP_isn WP_eqs WP_not WP_conv WP_mkf WP_bld WP_bls WP_sla WP_sls WP_sl0 WP_len WP_app WP_mnx WP_ext WP_nilc WLPV_true WLPV_false WLPC_false WLC_tells WLPC_tells padH onNm onEx List.getElem?_cons_zero List.getElem?_cons_succ List.getElem?_nil restrict AV.lows lay AV.isCell lowObj AObj.lows WJ_nm AV.lows.go WL_scope onGt_rt onGt_nm onGt_ex WL_sreg WP_st preSt eraseB List.set_cons_zero List.set_cons_succ frz cutR cutAs cutA WL_sregT cutB cutBs

def phOk (p : Int) : Prop := 0 ≤ p ∧ p < 256
theorem SW_av (p o : Int) : (SW p o).av = .agg [.d (.int .u8 p), .d (.int .i64 o)] := rfl
theorem SW_inj {p o p' o' : Int} (h : [SW p o] = [SW p' o']) : p = p' ∧ o = o' := by simpa [SW] using h
noncomputable def sright_F := orcOf (fun s : Int × Int => [SW s.1 s.2]) (fun s => phOk s.1) (fun s => [Bo (stabRight s.1 s.2)])
noncomputable def why_F := orcOf (fun s : Int × Int => [SW s.1 s.2]) (fun s => phOk s.1) (fun s => [.s (.int .u8 (whyS s.1 s.2))])
theorem orcS {ok : Int × Int → Prop} {out : Int × Int → List DV} {p o : Int} (h : ok (p, o)) : orcOf (fun s : Int × Int => [SW s.1 s.2]) ok out [SW p o] = some (out (p, o)) :=
  orcOf_eq (enc := fun s : Int × Int => [SW s.1 s.2]) (x := (p, o)) h (fun y h => by
    obtain ⟨h1, h2⟩ := SW_inj h
    exact Prod.ext h1 h2)
instance (p o : Int) [h : Fact (phOk p)] : Tells sright_F [.agg [.d (.int .u8 p), .d (.int .i64 o)]] (.d (.bool (stabRight p o))) := ⟨[SW p o], [Bo (stabRight p o)], fun _ => rfl, orcS h.out, rfl, rfl, fun _ _ => rfl⟩
instance (p o : Int) [h : Fact (phOk p)] : Tells why_F [.agg [.d (.int .u8 p), .d (.int .i64 o)]] (.d (.int .u8 (whyS p o))) := ⟨[SW p o], [.s (.int .u8 (whyS p o))], fun _ => rfl, orcS h.out, rfl, rfl, fun _ _ => rfl⟩
theorem wrapPh {p : Int} (h : phOk p) : IntKind.i64.wrap p = p := by obtain ⟨h1, h2⟩ := h; rw [wrap64]; split <;> omega
theorem stab_Right : Pure Tryd.prog 18 sright_F := by
  refine con (T := tbl []) (tbl_ok (by simp)) rfl rfl fun ⟨p, o⟩ hp => ⟨rfl, ?_⟩
  have hw := wrapPh hp
  have e4 : decide (p < 4) = decide (p ≤ 3) := by rw [Bool.eq_iff_iff]; simp; omega
  cases h0 : p == 0 with
  | true => simp [cf18, SW_av, -getElem?_pos, h0, stabRight]
  | false =>
    simp [cf18, SW_av, -getElem?_pos, h0, hw, e4, stabRight, isPlace]
    clear e4
    all_goals (try (first | refine WLV_splitN (fun hs => ?_) (fun hs => ?_) | refine WLC_splitN (fun hs => ?_) (fun hs => ?_) | refine WLB_splitN (fun hs => ?_) (fun hs => ?_) | refine WLPV_splitN (fun hs => ?_) (fun hs => ?_) | refine WLPC_splitN (fun hs => ?_) (fun hs => ?_) | refine WLPV_split (fun hs => ?_) (fun hs => ?_) | refine WLPC_split (fun hs => ?_) (fun hs => ?_) | refine WLV_split (fun hs => ?_) (fun hs => ?_) | refine WLC_split (fun hs => ?_) (fun hs => ?_) | refine WLB_split (fun hs => ?_) (fun hs => ?_)))
    all_goals (try (have hs' := hs; simp at hs'))
    all_goals (try simp [*, -getElem?_pos, hw])
    all_goals (try (first | refine WLV_splitN (fun hs => ?_) (fun hs => ?_) | refine WLC_splitN (fun hs => ?_) (fun hs => ?_) | refine WLB_splitN (fun hs => ?_) (fun hs => ?_) | refine WLPV_splitN (fun hs => ?_) (fun hs => ?_) | refine WLPC_splitN (fun hs => ?_) (fun hs => ?_) | refine WLPV_split (fun hs => ?_) (fun hs => ?_) | refine WLPC_split (fun hs => ?_) (fun hs => ?_) | refine WLV_split (fun hs => ?_) (fun hs => ?_) | refine WLC_split (fun hs => ?_) (fun hs => ?_) | refine WLB_split (fun hs => ?_) (fun hs => ?_)))
    all_goals (try (have hs' := hs; simp at hs'))
    all_goals (try simp [*, -getElem?_pos, hw])
    all_goals (try simp [*])
noncomputable abbrev stab_Right_F := sright_F
theorem garlandref14_Right : Pure Tryd.prog 19 sright_F := by
  refine con (T := tbl []) (tbl_ok (by simp)) rfl rfl fun ⟨p, o⟩ hp => ⟨rfl, ?_⟩
  cases h0 : p == 0 with
  | true => simp [cf19, SW_av, -getElem?_pos, h0, stabRight]
  | false =>
    simp [cf19, SW_av, -getElem?_pos, h0, stabRight, isPlace]
    all_goals (try (first | refine WLV_splitN (fun hs => ?_) (fun hs => ?_) | refine WLC_splitN (fun hs => ?_) (fun hs => ?_) | refine WLB_splitN (fun hs => ?_) (fun hs => ?_) | refine WLPV_splitN (fun hs => ?_) (fun hs => ?_) | refine WLPC_splitN (fun hs => ?_) (fun hs => ?_) | refine WLPV_split (fun hs => ?_) (fun hs => ?_) | refine WLPC_split (fun hs => ?_) (fun hs => ?_) | refine WLV_split (fun hs => ?_) (fun hs => ?_) | refine WLC_split (fun hs => ?_) (fun hs => ?_) | refine WLB_split (fun hs => ?_) (fun hs => ?_)))
    all_goals (try (have hs' := hs; simp at hs'))
    all_goals (try simp [*, -getElem?_pos])
    all_goals (try (first | refine WLV_splitN (fun hs => ?_) (fun hs => ?_) | refine WLC_splitN (fun hs => ?_) (fun hs => ?_) | refine WLB_splitN (fun hs => ?_) (fun hs => ?_) | refine WLPV_splitN (fun hs => ?_) (fun hs => ?_) | refine WLPC_splitN (fun hs => ?_) (fun hs => ?_) | refine WLPV_split (fun hs => ?_) (fun hs => ?_) | refine WLPC_split (fun hs => ?_) (fun hs => ?_) | refine WLV_split (fun hs => ?_) (fun hs => ?_) | refine WLC_split (fun hs => ?_) (fun hs => ?_) | refine WLB_split (fun hs => ?_) (fun hs => ?_)))
    all_goals (try (have hs' := hs; simp at hs'))
    all_goals (try simp [*, -getElem?_pos])
    all_goals (try simp [*])
noncomputable abbrev garlandref14_Right_F := sright_F
theorem ph_cases {p o : Int} (h : phOk p) (hr : stabRight p o = true) : p = 0 ∨ p = 1 ∨ p = 2 ∨ p = 3 := by
  obtain ⟨h1, h2⟩ := h
  unfold stabRight at hr
  cases h0 : p == 0 with
  | true => simp at h0; omega
  | false => simp [h0] at hr; omega
noncomputable def TSR : Tbl := tbl [(18, stab_Right_F)]
theorem TSR_ok : TblOK Tryd.prog TSR := tbl_ok (by
  simp only [List.mem_cons, List.not_mem_nil, or_false]
  rintro p (rfl)
  · exact stab_Right)
instance : Has TSR 18 stab_Right_F := ⟨rfl⟩

theorem stab_Why : Pure Tryd.prog 20 why_F := by
  refine con TSR_ok rfl rfl fun ⟨p, o⟩ hp => ⟨rfl, ?_⟩
  haveI : Fact (phOk p) := ⟨hp⟩
  cases hr : stabRight p o with
  | false => simp [cf20, SW_av, -getElem?_pos, hr, whyS]
  | true =>
    rcases ph_cases hp hr with rfl | rfl | rfl | rfl <;> simp [cf20, SW_av, -getElem?_pos, hr, whyS]
noncomputable abbrev stab_Why_F := why_F
noncomputable def TRR : Tbl := tbl [(19, garlandref14_Right_F)]
theorem TRR_ok : TblOK Tryd.prog TRR := tbl_ok (by
  simp only [List.mem_cons, List.not_mem_nil, or_false]
  rintro p (rfl)
  · exact garlandref14_Right)
instance : Has TRR 19 garlandref14_Right_F := ⟨rfl⟩

theorem garlandref14_Why : Pure Tryd.prog 21 why_F := by
  refine con TRR_ok rfl rfl fun ⟨p, o⟩ hp => ⟨rfl, ?_⟩
  haveI : Fact (phOk p) := ⟨hp⟩
  have w0 : IntKind.u8.wrap 0 = 0 := by decide
  have w1 : IntKind.u8.wrap 1 = 1 := by decide
  have w2 : IntKind.u8.wrap 2 = 2 := by decide
  cases hr : stabRight p o with
  | false => simp [cf21, SW_av, -getElem?_pos, hr, whyS]
  | true =>
    rcases ph_cases hp hr with rfl | rfl | rfl | rfl <;> simp [cf21, SW_av, -getElem?_pos, hr, whyS, fillA, w0, w1, w2]
noncomputable abbrev garlandref14_Why_F := why_F

/-! ### asks -/
def al : Option (Int × Int × Int) → List (List Dat)
  | none => []
  | some (k, t, w) => [askRow k t w]
theorem al_inj {a b : Option (Int × Int × Int)} (h : al a = al b) : a = b := by
  cases a with
  | none =>
    cases b with
    | none => rfl
    | some b => obtain ⟨_, _, _⟩ := b; cases h
  | some a =>
    obtain ⟨k, t, w⟩ := a
    cases b with
    | none => cases h
    | some b =>
      obtain ⟨k', t', w'⟩ := b
      simp [al, askRow] at h
      obtain ⟨h1, h2, h3⟩ := h
      rw [h1, h2, h3]
def begB (v : VW) (p o : Int) : Bool := v.right && (p == 0) && (o == 0)
def begP (v : VW) (p o : Int) : Int := bif begB v p o then 1 else p
def begO (v : VW) (p o : Int) : Int := bif begB v p o then v.first else o
def begA (v : VW) (p o : Int) : Option (Int × Int × Int) := bif begB v p o then some (1, v.first, 1) else none
noncomputable def begin_F := orcOf (fun q : VW × Int × Int => [V q.1, SW q.2.1 q.2.2]) (fun q => phOk q.2.1) (fun q => [SW (begP q.1 q.2.1 q.2.2) (begO q.1 q.2.1 q.2.2), .s (.sl (al (begA q.1 q.2.1 q.2.2)))])
instance (v : VW) (p o : Int) [h : Fact (phOk p)] : Tells begin_F [.agg v.cs, .agg [.d (.int .u8 p), .d (.int .i64 o)]] (.tup [.agg [.d (.int .u8 (begP v p o)), .d (.int .i64 (begO v p o))], .d (.sl (al (begA v p o)))]) :=
  ⟨[V v, SW p o], [SW (begP v p o) (begO v p o), .s (.sl (al (begA v p o)))], fun h => by simp [toDVs, toDV, cs_dats, V, SW, dats?, AV.dat?], orcOf_eq (enc := fun q : VW × Int × Int => [V q.1, SW q.2.1 q.2.2]) (x := (v, p, o)) h.out (fun y h => by
    simp only [V, SW, List.cons.injEq, DV.g.injEq, Dat.int.injEq, true_and, and_true] at h
    exact Prod.ext (VW.inj h.1) (Prod.ext h.2.1 h.2.2)), rfl, rfl, fun _ _ => by simp [AV.lows, AV.lows.go, cs_lows]⟩
noncomputable def TSB : Tbl := tbl [(36, view_Right_F), (37, view_First_F)]
theorem TSB_ok : TblOK Tryd.prog TSB := tbl_ok (by
  simp only [List.mem_cons, List.not_mem_nil, or_false]
  rintro p (rfl | rfl)
  · exact view_Right
  · exact view_First)
instance : Has TSB 36 view_Right_F := ⟨rfl⟩
instance : Has TSB 37 view_First_F := ⟨rfl⟩

theorem stab_Begin : Pure Tryd.prog 10 begin_F := by
  refine con TSB_ok rfl rfl fun ⟨v, p, o⟩ hp => ⟨rfl, ?_⟩
  cases h0 : p == 0 with
  | false =>
    have hb : begB v p o = false := by simp [begB, h0]
    simp [cf10, V_av, SW_av, -getElem?_pos, cs_length, cs_take, cs_all, cs_lows, fillA, eqCells, eqCell, begP, begO, begA, hb, h0, al]
    try rfl
  | true =>
    cases h1 : o == 0 with
    | false =>
      have hb : begB v p o = false := by simp [begB, h0, h1]
      simp [cf10, V_av, SW_av, -getElem?_pos, cs_length, cs_take, cs_all, cs_lows, fillA, eqCells, eqCell, begP, begO, begA, hb, h0, h1, al]
      try rfl
    | true =>
      cases hr : v.right with
      | false =>
        have hb : begB v p o = false := by simp [begB, hr]
        simp [cf10, V_av, SW_av, -getElem?_pos, cs_length, cs_take, cs_all, cs_lows, fillA, eqCells, eqCell, begP, begO, begA, hb, h0, h1, hr, al]
        try rfl
      | true =>
        have hb : begB v p o = true := by simp [begB, hr, h0, h1]
        simp [cf10, V_av, SW_av, -getElem?_pos, cs_length, cs_take, cs_all, cs_lows, fillA, eqCells, eqCell, begP, begO, begA, hb, h0, h1, hr, al]
        have hLIM : 1 ≤ LIM := by decide
        refine WLPC_fn (cf := cf39) rfl rfl rfl (by simp [AV.lows, AV.lows.go, -getElem?_pos, cs_all, cs_lows]) ?_
        simp [cf39, afterPC, hideT, -getElem?_pos, dats?, AV.dat?, cs_all, cs_lows]
        refine WLPC_fn (cf := cf38) rfl rfl rfl (by simp [AV.lows, AV.lows.go, -getElem?_pos, cs_all, cs_lows]) ?_
        simp [cf38, afterPC, hideT, -getElem?_pos, cs_all, cs_lows]
        refine WLC_fn (cf := cf80) rfl rfl rfl ?_
        simp [cf80, afterC, -getElem?_pos, cs_all, cs_lows]
        refine WL_range (cf := cf81) rfl rfl rfl rfl ?_
        simp [cf81, -getElem?_pos, fillA, dats?, AV.dat?, chunk, rows?, cs_all, cs_lows]
        refine WLC_yld rfl rfl rfl ?_
        simp [bindPs, afterY, afterR, afterC, afterPC, hideT, -getElem?_pos, fillA, dats?, AV.dat?, chunk, rows?, rowsOk, hLIM, cs_all, cs_lows]
        try rfl
noncomputable abbrev stab_Begin_F := begin_F
noncomputable def asks14_F := orcOf (fun s : Int × Int => [SW s.1 s.2]) (fun s => (s.1 = 1 ∨ s.1 = 2 ∨ s.1 = 3) ∧ isPlace s.2 = true) (fun s => [.s (.sl (al (some (kindS s.1, s.2, s.1))))])
noncomputable def TRW : Tbl := tbl [(21, garlandref14_Why_F)]
theorem TRW_ok : TblOK Tryd.prog TRW := tbl_ok (by
  simp only [List.mem_cons, List.not_mem_nil, or_false]
  rintro p (rfl)
  · exact garlandref14_Why)
instance : Has TRW 21 garlandref14_Why_F := ⟨rfl⟩

end Go.Proofs.YtfifgiopdbdeoaaDoor.Lite
namespace Go.Proofs.YtfifgiopdbdeoaaDoor.Lite
open Go
attribute [local simp] WL_of WL_nil WL_blk WL_skip WL_label WL_exit WL_goto WL_seq WL_block WL_cond WL_reg WL_ret WJ_nil WJ_ex WJ_gt WJ_rt WJ_exb WJ_gtb WJ_rtb WLO_nil WLO_call WO_nw stepN WO_mv WO_pick WO_new WO_box WO_ld WO_ldn WO_st WO_off WO_ixa WO_ixs WO_fld WO_fldn WO_ixv WO_ixvn WO_ixb WO_bin WO_eqb WO_isn WO_eqs WO_not WO_conv WO_mkf WO_bld WO_bls WO_sla WO_sls WO_sl0 WO_len WO_app WO_mnx WO_ext WO_nilc wants_none wants_some wantv_b wantv_t WLV_true WLV_false WLC_false WLB_true WLB_false evX_t evX_c evXs_nil evXs_cons look_put look_putN look_cons look_arg0 look_arg stepK binOpA intOp strOp evRes oneOf outs gc toDV AV.dat? I Bo av_s List.map List.append_nil getO putO AV.cellsOf bne WL_dreg WLP_nil WLP_call WP_mv WP_pick WP_new WP_box WP_ld WP_ldn WP_off WP_ixa WP_ixs WP_fld WP_fldn WP_ixv WP_ixvn WP_ixb WP_bin WP_eqb WP_isn WP_eqs WP_not WP_conv WP_mkf WP_bld WP_bls WP_sla WP_sls WP_sl0 WP_len WP_app WP_mnx WP_ext WP_nilc WLPV_true WLPV_false WLPC_false WLC_tells WLPC_tells padH onNm onEx List.getElem?_cons_zero List.getElem?_cons_succ List.getElem?_nil restrict AV.lows lay AV.isCell lowObj AObj.lows WJ_nm AV.lows.go WL_scope onGt_rt onGt_nm onGt_ex WL_sreg WP_st preSt eraseB List.set_cons_zero List.set_cons_succ frz cutR cutAs cutA WL_sregT cutB cutBs

instance (p o : Int) [h : Fact ((p = 1 ∨ p = 2 ∨ p = 3) ∧ isPlace o = true)] : Tells asks14_F [.agg [.d (.int .u8 p), .d (.int .i64 o)]] (.d (.sl [askRow (kindS p) o p])) := ⟨[SW p o], [.s (.sl [askRow (kindS p) o p])], fun _ => rfl, orcS h.out, rfl, rfl, fun _ _ => rfl⟩
theorem garlandref14_asks : Pure Tryd.prog 41 asks14_F := by
  refine con TRW_ok rfl rfl fun ⟨p, o⟩ hp => ⟨rfl, ?_⟩
  obtain ⟨h1, h2⟩ := hp
  have hk : phOk p := by rcases h1 with h | h | h <;> (simp only at h; subst h; constructor <;> omega)
  haveI : Fact (phOk p) := ⟨hk⟩
  have hr : stabRight p o = true := by rcases h1 with h | h | h <;> (simp only at h; subst h; simp only at h2; simp [stabRight, h2])
  have hw : whyS p o = p := by simp [whyS, hr]
  rcases h1 with h | h | h <;> (simp only at h; subst h; simp [cf41, SW_av, -getElem?_pos, fillA, dats?, AV.dat?, chunk, hw, al, askRow, kindS])
noncomputable abbrev garlandref14_asks_F := asks14_F
noncomputable def TRB : Tbl := tbl [(22, garlandref13_Right_F), (19, garlandref14_Right_F), (40, garlandref13_First_F), (41, garlandref14_asks_F)]
theorem TRB_ok : TblOK Tryd.prog TRB := tbl_ok (by
  simp only [List.mem_cons, List.not_mem_nil, or_false]
  rintro p (rfl | rfl | rfl | rfl)
  · exact garlandref13_Right
  · exact garlandref14_Right
  · exact garlandref13_First
  · exact garlandref14_asks)
instance : Has TRB 22 garlandref13_Right_F := ⟨rfl⟩
instance : Has TRB 19 garlandref14_Right_F := ⟨rfl⟩
instance : Has TRB 40 garlandref13_First_F := ⟨rfl⟩
instance : Has TRB 41 garlandref14_asks_F := ⟨rfl⟩

theorem garlandref14_Begin : Pure Tryd.prog 11 begin_F := by
  refine con TRB_ok rfl rfl fun ⟨v, p, o⟩ hp => ⟨rfl, ?_⟩
  haveI : Fact (phOk p) := ⟨hp⟩
  cases hr : v.right with
  | false =>
    have hb : begB v p o = false := by simp [begB, hr]
    simp [cf11, V_av, SW_av, -getElem?_pos, cs_length, cs_take, cs_all, cs_lows, fillA, begP, begO, begA, hb, hr, al]
    try rfl
  | true =>
    cases h0 : p == 0 with
    | false =>
      have hb : begB v p o = false := by simp [begB, h0]
      simp [cf11, V_av, SW_av, -getElem?_pos, cs_length, cs_take, cs_all, cs_lows, fillA, begP, begO, begA, hb, hr, h0, al]
      all_goals (try (first | refine WLV_splitN (fun hs => ?_) (fun hs => ?_) | refine WLC_splitN (fun hs => ?_) (fun hs => ?_) | refine WLB_splitN (fun hs => ?_) (fun hs => ?_) | refine WLPV_splitN (fun hs => ?_) (fun hs => ?_) | refine WLPC_splitN (fun hs => ?_) (fun hs => ?_) | refine WLPV_split (fun hs => ?_) (fun hs => ?_) | refine WLPC_split (fun hs => ?_) (fun hs => ?_) | refine WLV_split (fun hs => ?_) (fun hs => ?_) | refine WLC_split (fun hs => ?_) (fun hs => ?_) | refine WLB_split (fun hs => ?_) (fun hs => ?_)))
      all_goals (try (have hs' := hs; simp at hs'))
      all_goals (try simp [*, -getElem?_pos, cs_all, cs_lows, begP, begO, begA, al])
      all_goals (try rfl)
    | true =>
      have hp0 : p = 0 := by simpa using h0
      subst hp0
      cases h1 : o == 0 with
      | false =>
        have hb : begB v 0 o = false := by simp [begB, h1]
        have hs : stabRight 0 o = false := by simp [stabRight, h1]
        simp [cf11, V_av, SW_av, -getElem?_pos, cs_length, cs_take, cs_all, cs_lows, fillA, begP, begO, begA, hb, hr, hs, al]
        try rfl
      | true =>
        have hb : begB v 0 o = true := by simp [begB, hr, h1]
        have hs : stabRight 0 o = true := by simp [stabRight, h1]
        haveI : Fact (((1 : Int) = 1 ∨ (1 : Int) = 2 ∨ (1 : Int) = 3) ∧ isPlace v.first = true) := ⟨.inl rfl, first_place hr⟩
        simp [cf11, V_av, SW_av, -getElem?_pos, cs_length, cs_take, cs_all, cs_lows, fillA, begP, begO, begA, hb, hr, hs, al]
        try rfl
noncomputable abbrev garlandref14_Begin_F := begin_F

/-! ### the same asks -/
noncomputable def same14_F := orcOf (fun a : Option (Int × Int × Int) => [.s (.sl (al a)), .s (.sl (al a))]) (fun _ => True) (fun _ => [Bo true])
instance (a : Option (Int × Int × Int)) : Tells same14_F [.d (.sl (al a)), .d (.sl (al a))] (.d (.bool true)) :=
  ⟨[.s (.sl (al a)), .s (.sl (al a))], [Bo true], fun _ => rfl, orcOf_eq (enc := fun a : Option (Int × Int × Int) => [.s (.sl (al a)), .s (.sl (al a))]) trivial (fun y h => by
    simp only [List.cons.injEq, DV.s.injEq, Dat.sl.injEq, and_true] at h
    exact al_inj h.1), rfl, rfl, fun _ _ => rfl⟩
instance (kind call src dest key : Int) (slow fin : Bool) (place pred : Int) (ikey : List UInt8) (ival iver : Int) (gone : Bool) (code : Int) :
    AsM [.d (.int .u8 kind), .d (.int .i64 call), .d (.int .i64 src), .d (.int .i64 dest), .d (.int .i64 key), .d (.bool slow), .d (.bool fin), .d (.int .i64 place), .d (.int .i64 pred), .d (.sl []), .d (.str ikey), .d (.int .i64 ival), .d (.int .i64 iver), .d (.bool gone), .d (.int .i64 code)]
      ⟨kind, call, src, dest, key, slow, fin, place, pred, [], ikey, ival, iver, gone, code, by decide⟩ := ⟨rfl, fun _ _ => rfl, rfl⟩
theorem msame_refl (m : MW) : m.same m = true := by simp [MW.same]
noncomputable def TAK : Tbl := tbl [(42, garlandref06_Same_F)]
theorem TAK_ok : TblOK Tryd.prog TAK := tbl_ok (by
  simp only [List.mem_cons, List.not_mem_nil, or_false]
  rintro p (rfl)
  · exact garlandref06_Same)
instance : Has TAK 42 garlandref06_Same_F := ⟨rfl⟩

theorem garlandref14_Asks : Pure Tryd.prog 12 same14_F := by
  refine con TAK_ok rfl rfl fun a _ => ⟨rfl, ?_⟩
  have w1 : IntKind.i64.wrap 1 = 1 := by decide
  cases a with
  | none =>
    simp [cf12, al, -getElem?_pos, stepK.lenA]
    rw [WL_code, W_loop]
    simp [-getElem?_pos, stepK.lenA]
  | some a =>
    obtain ⟨k, t, w⟩ := a
    simp [cf12, al, askRow, -getElem?_pos, stepK.lenA]
    rw [WL_code, W_loop]
    simp [-getElem?_pos, stepK.lenA, msame_refl, w1]
    rw [WL_code, W_loop]
    simp [-getElem?_pos, stepK.lenA]
noncomputable abbrev garlandref14_Asks_F := same14_F
end Go.Proofs.YtfifgiopdbdeoaaDoor.Lite
namespace Go.Proofs.YtfifgiopdbdeoaaDoor.Lite
open Go
attribute [local simp] WL_of WL_nil WL_blk WL_skip WL_label WL_exit WL_goto WL_seq WL_block WL_cond WL_reg WL_ret WJ_nil WJ_ex WJ_gt WJ_rt WJ_exb WJ_gtb WJ_rtb WLO_nil WLO_call WO_nw stepN WO_mv WO_pick WO_new WO_box WO_ld WO_ldn WO_st WO_off WO_ixa WO_ixs WO_fld WO_fldn WO_ixv WO_ixvn WO_ixb WO_bin WO_eqb WO_isn WO_eqs WO_not WO_conv WO_mkf WO_bld WO_bls WO_sla WO_sls WO_sl0 WO_len WO_app WO_mnx WO_ext WO_nilc wants_none wants_some wantv_b wantv_t WLV_true WLV_false WLC_false WLB_true WLB_false evX_t evX_c evXs_nil evXs_cons look_put look_putN look_cons look_arg0 look_arg stepK binOpA intOp strOp evRes oneOf outs gc toDV AV.dat? I Bo av_s List.map List.append_nil getO putO AV.cellsOf bne WL_dreg WLP_nil WLP_call WP_mv WP_pick WP_new WP_box WP_ld WP_ldn WP_off WP_ixa WP_ixs WP_fld WP_fldn WP_ixv WP_ixvn WP_ixb WP_bin WP_eqb WP_isn WP_eqs WP_not WP_conv WP_mkf WP_bld WP_bls WP_sla WP_sls WP_sl0 WP_len WP_app WP_mnx WP_ext WP_nilc WLPV_true WLPV_false WLPC_false WLC_tells WLPC_tells padH onNm onEx List.getElem?_cons_zero List.getElem?_cons_succ List.getElem?_nil restrict AV.lows lay AV.isCell lowObj AObj.lows WJ_nm AV.lows.go WL_scope onGt_rt onGt_nm onGt_ex WL_sreg WP_st preSt eraseB List.set_cons_zero List.set_cons_succ frz cutR cutAs cutA WL_sregT cutB cutBs

def cntB (v : VW) (p o : Int) (m : MW) : Bool := v.right && stabRight p o && !(p == 0) && m.right && (m.src == o) && (m.dest == v.id) && (m.kind == kindS p + 6)
def ahead (v : VW) (p : Int) (m : MW) : Bool := (p == 1) && decide (0 ≤ m.pred) && inB v.id m.pred m.src
def newV (v : VW) (m : MW) : VW := v.withL (makeL v.id m.src m.lst) (makeL_63 _ _ _)
def tolV (v : VW) (p o : Int) (m : MW) : VW := bif cntB v p o m && !(p == 3) then newV v m else v
def tolP (v : VW) (p o : Int) (m : MW) : Int := bif cntB v p o m then (bif p == 3 then 0 else bif ahead v p m then 2 else 3) else p
def tolO (v : VW) (p o : Int) (m : MW) : Int := bif cntB v p o m then (bif p == 3 then 0 else bif ahead v p m then m.pred else (newV v m).first) else o
def tolA (v : VW) (p o : Int) (m : MW) : Option (Int × Int × Int) := bif cntB v p o m && !(p == 3) then some (kindS (tolP v p o m), tolO v p o m, tolP v p o m) else none
def tolOk (v : VW) (p : Int) (m : MW) : Prop := v.small ∧ phOk p ∧ m.call < 9223372036854775808 ∧ m.lst.length ≤ 4294967290
noncomputable def told14_F := orcOf (fun q : VW × (Int × Int) × MW => [V q.1, SW q.2.1.1 q.2.1.2, Mg q.2.2]) (fun q => tolOk q.1 q.2.1.1 q.2.2)
  (fun q => [V (tolV q.1 q.2.1.1 q.2.1.2 q.2.2), SW (tolP q.1 q.2.1.1 q.2.1.2 q.2.2) (tolO q.1 q.2.1.1 q.2.1.2 q.2.2), .s (.sl (al (tolA q.1 q.2.1.1 q.2.1.2 q.2.2)))])
theorem toV (v : VW) (h : Heap) : toDV h (.agg v.cs) = some (V v) := by simp [toDV, cs_dats, V]
theorem toS (p o : Int) (h : Heap) : toDV h (.agg [.d (.int .u8 p), .d (.int .i64 o)]) = some (SW p o) := rfl
theorem mcs_low (m : MW) (N M : Nat) : ∀ (x : AV), x ∈ m.cs → AV.lows N M x = true := fun x hx => List.all_eq_true.1 (mcs_all m N M) x hx
theorem mcs_if {α : Type} (m : MW) (N M : Nat) (a b : α) [Decidable (∀ (x : AV), x ∈ m.cs → AV.lows N M x = true)] : (if ∀ (x : AV), x ∈ m.cs → AV.lows N M x = true then a else b) = a := if_pos (mcs_low m N M)
theorem vcs_low (v : VW) (N M : Nat) : ∀ (x : AV), x ∈ v.cs → AV.lows N M x = true := fun x hx => List.all_eq_true.1 (cs_all v N M) x hx
theorem vcs_if {α : Type} (v : VW) (N M : Nat) (a b : α) [Decidable (∀ (x : AV), x ∈ v.cs → AV.lows N M x = true)] : (if ∀ (x : AV), x ∈ v.cs → AV.lows N M x = true then a else b) = a := if_pos (vcs_low v N M)
instance (v : VW) (p o : Int) (xs : List AV) (m : MW) [hm : AsM xs m] [h : Fact (tolOk v p m)] : Tells told14_F [.agg v.cs, .agg [.d (.int .u8 p), .d (.int .i64 o)], .agg xs] (.tup [.agg (tolV v p o m).cs, .agg [.d (.int .u8 (tolP v p o m)), .d (.int .i64 (tolO v p o m))], .d (.sl (al (tolA v p o m)))]) :=
  ⟨[V v, SW p o, Mg m], [V (tolV v p o m), SW (tolP v p o m) (tolO v p o m), .s (.sl (al (tolA v p o m)))], fun h => by simp only [toDVs, asM_to hm, toV, toS], orcOf_eq (enc := fun q : VW × (Int × Int) × MW => [V q.1, SW q.2.1.1 q.2.1.2, Mg q.2.2]) (x := (v, (p, o), m)) h.out (fun y h => by
    simp only [V, SW, Mg, List.cons.injEq, DV.g.injEq, Dat.int.injEq, true_and, and_true] at h
    exact Prod.ext (VW.inj h.1) (Prod.ext (Prod.ext h.2.1.1 h.2.1.2) (MW.inj h.2.2))), by simp only [oneOf, List.map, V_av, SW_av]; rfl, by simp [AV.tied, hm.t], fun N M => by simp [AV.lows, AV.lows.go, cs_lows, hm.l]⟩
theorem make_inst (x s : Int) (l : List Int) : True := trivial
instance (x s : Int) (l : List Int) [h : Fact (l.length ≤ 4294967290)] : Tells make_F [.d (.int .i64 x), .d (.int .i64 s), .d (.sl (rowsI l))] (.d (.sl (rowsI (makeL x s l)))) :=
  ⟨[I x, I s, SI l], [SI (makeL x s l)], fun _ => rfl, orcOf_eq (enc := fun p : Int × Int × List Int => [I p.1, I p.2.1, SI p.2.2]) (x := (x, s, l)) h.out (fun y h => by
    simp only [I, SI, List.cons.injEq, DV.s.injEq, Dat.int.injEq, Dat.sl.injEq, true_and, and_true] at h
    exact Prod.ext h.1 (Prod.ext h.2.1 (rowsI_inj h.2.2))), rfl, rfl, fun _ _ => rfl⟩
theorem tol_no {v : VW} {p o : Int} {m : MW} (h : cntB v p o m = false) : tolV v p o m = v ∧ tolP v p o m = p ∧ tolO v p o m = o ∧ tolA v p o m = none := by simp [tolV, tolP, tolO, tolA, h]
theorem tol_end {v : VW} {o : Int} {m : MW} (h : cntB v 3 o m = true) : tolV v 3 o m = v ∧ tolP v 3 o m = 0 ∧ tolO v 3 o m = 0 ∧ tolA v 3 o m = none := by simp [tolV, tolP, tolO, tolA, h]
theorem mcs_0' (m : MW) : m.cs[0]? = some (.d (.int .u8 m.kind)) := rfl
theorem mcs_8' (m : MW) : m.cs[8]? = some (.d (.int .i64 m.pred)) := rfl
theorem mcs_9' (m : MW) : m.cs[9]? = some (vsI m.lst) := rfl
noncomputable def TST : Tbl := tbl [(43, view_Own_F), (36, view_Right_F), (18, stab_Right_F), (44, msg_Right_F), (45, list_Make_F), (37, view_First_F), (46, arc_In_F)]
theorem TST_ok : TblOK Tryd.prog TST := tbl_ok (by
  simp only [List.mem_cons, List.not_mem_nil, or_false]
  rintro p (rfl | rfl | rfl | rfl | rfl | rfl | rfl)
  · exact view_Own
  · exact view_Right
  · exact stab_Right
  · exact msg_Right
  · exact list_Make
  · exact view_First
  · exact arc_In)
instance : Has TST 43 view_Own_F := ⟨rfl⟩
instance : Has TST 36 view_Right_F := ⟨rfl⟩
instance : Has TST 18 stab_Right_F := ⟨rfl⟩
instance : Has TST 44 msg_Right_F := ⟨rfl⟩
instance : Has TST 45 list_Make_F := ⟨rfl⟩
instance : Has TST 37 view_First_F := ⟨rfl⟩
instance : Has TST 46 arc_In_F := ⟨rfl⟩

theorem isCell_n : AV.nils.isCell = true := rfl
def RTo : CCode := (.seq .skip (.seq (.sreg [6] true (⟨(some 95), .ldn 20 (.t 6), none⟩ ::
    ⟨(some 96), .ldn 2 (.t 7), none⟩ ::
    ⟨none, .st 20 (.t 6) (.t 95), none⟩ ::
    []) (⟨none, .st 2 (.t 7) (.t 96), none⟩ ::
    ⟨(some 8), .mv (.c (.nils)), none⟩ ::
    []))
  .ret))
set_option maxHeartbeats 4000000 in
theorem stab_Told : Pure Tryd.prog 13 told14_F := by
  refine con TST_ok rfl rfl fun ⟨v, ⟨p, o⟩, m⟩ hq => ⟨rfl, ?_⟩
  obtain ⟨hv, hp, hm, hl⟩ := hq
  simp only at hv hp hm hl
  haveI : Fact v.small := ⟨hv⟩
  haveI : Fact (phOk p) := ⟨hp⟩
  haveI : Fact (m.call < 9223372036854775808) := ⟨hm⟩
  haveI : Fact (m.lst.length ≤ 4294967290) := ⟨hl⟩
  have hlen := cs_length v
  have w67 : IntKind.u8.wrap 7 = 7 := by decide
  have w69 : IntKind.u8.wrap 9 = 9 := by decide
  cases h1 : v.right with
  | false =>
    obtain ⟨e1, e2, e3, e4⟩ := tol_no (show cntB v p o m = false by simp [cntB, kindS, h1])
    simp only [e1, e2, e3, e4]
    simp [cf13, V_av, SW_av, Mg_av, -getElem?_pos, h1, cs_0, cs_length, cs_take, cs_all, cs_lows, cs_drop20, cs_dats, mcs_0', mcs_2, mcs_3, mcs_8', mcs_9', mcs_len, mcs_take, mcs_all, mcs_lows, fillA, mcs_if, vcs_if, if_pos (cs_cell2 v), -AV.isCell, isCell_d]
    refine onGt_go (rest := RTo) rfl ?_
    simp [RTo, -getElem?_pos, al, cs_0, cs_length, cs_take, cs_all, cs_lows, cs_drop20, cs_dats, mcs_0', mcs_2, mcs_3, mcs_8', mcs_9', mcs_len, mcs_take, mcs_all, mcs_lows, fillA, mcs_if, vcs_if, if_pos (cs_cell2 v), -AV.isCell, isCell_d]
    simp only [toDVs, toV, toS]
    rfl
  | true =>
    cases h2 : stabRight p o with
    | false =>
      obtain ⟨e1, e2, e3, e4⟩ := tol_no (show cntB v p o m = false by simp [cntB, kindS, h1, h2])
      simp only [e1, e2, e3, e4]
      simp [cf13, V_av, SW_av, Mg_av, -getElem?_pos, h1, h2, cs_0, cs_length, cs_take, cs_all, cs_lows, cs_drop20, cs_dats, mcs_0', mcs_2, mcs_3, mcs_8', mcs_9', mcs_len, mcs_take, mcs_all, mcs_lows, fillA, mcs_if, vcs_if, if_pos (cs_cell2 v), -AV.isCell, isCell_d]
      refine onGt_go (rest := RTo) rfl ?_
      simp [RTo, -getElem?_pos, al, cs_0, cs_length, cs_take, cs_all, cs_lows, cs_drop20, cs_dats, mcs_0', mcs_2, mcs_3, mcs_8', mcs_9', mcs_len, mcs_take, mcs_all, mcs_lows, fillA, mcs_if, vcs_if, if_pos (cs_cell2 v), -AV.isCell, isCell_d]
      simp only [toDVs, toV, toS]
      rfl
    | true =>
      cases h3 : m.right with
      | false =>
        obtain ⟨e1, e2, e3, e4⟩ := tol_no (show cntB v p o m = false by simp [cntB, kindS, h1, h2, h3])
        simp only [e1, e2, e3, e4]
        simp [cf13, V_av, SW_av, Mg_av, -getElem?_pos, h1, h2, h3, cs_0, cs_length, cs_take, cs_all, cs_lows, cs_drop20, cs_dats, mcs_0', mcs_2, mcs_3, mcs_8', mcs_9', mcs_len, mcs_take, mcs_all, mcs_lows, fillA, mcs_if, vcs_if, if_pos (cs_cell2 v), -AV.isCell, isCell_d]
        refine onGt_go (rest := RTo) rfl ?_
        simp [RTo, -getElem?_pos, al, cs_0, cs_length, cs_take, cs_all, cs_lows, cs_drop20, cs_dats, mcs_0', mcs_2, mcs_3, mcs_8', mcs_9', mcs_len, mcs_take, mcs_all, mcs_lows, fillA, mcs_if, vcs_if, if_pos (cs_cell2 v), -AV.isCell, isCell_d]
        simp only [toDVs, toV, toS]
        rfl
      | true =>
        cases h4 : m.src == o with
        | false =>
          obtain ⟨e1, e2, e3, e4⟩ := tol_no (show cntB v p o m = false by simp [cntB, kindS, h1, h2, h3, h4])
          simp only [e1, e2, e3, e4]
          simp [cf13, V_av, SW_av, Mg_av, -getElem?_pos, h1, h2, h3, h4, cs_0, cs_length, cs_take, cs_all, cs_lows, cs_drop20, cs_dats, mcs_0', mcs_2, mcs_3, mcs_8', mcs_9', mcs_len, mcs_take, mcs_all, mcs_lows, fillA, mcs_if, vcs_if, if_pos (cs_cell2 v), -AV.isCell, isCell_d]
          refine onGt_go (rest := RTo) rfl ?_
          simp [RTo, -getElem?_pos, al, cs_0, cs_length, cs_take, cs_all, cs_lows, cs_drop20, cs_dats, mcs_0', mcs_2, mcs_3, mcs_8', mcs_9', mcs_len, mcs_take, mcs_all, mcs_lows, fillA, mcs_if, vcs_if, if_pos (cs_cell2 v), -AV.isCell, isCell_d]
          simp only [toDVs, toV, toS]
          rfl
        | true =>
          cases h5 : m.dest == v.id with
          | false =>
            obtain ⟨e1, e2, e3, e4⟩ := tol_no (show cntB v p o m = false by simp [cntB, kindS, h1, h2, h3, h4, h5])
            simp only [e1, e2, e3, e4]
            simp [cf13, V_av, SW_av, Mg_av, -getElem?_pos, h1, h2, h3, h4, h5, cs_0, cs_length, cs_take, cs_all, cs_lows, cs_drop20, cs_dats, mcs_0', mcs_2, mcs_3, mcs_8', mcs_9', mcs_len, mcs_take, mcs_all, mcs_lows, fillA, mcs_if, vcs_if, if_pos (cs_cell2 v), -AV.isCell, isCell_d]
            refine onGt_go (rest := RTo) rfl ?_
            simp [RTo, -getElem?_pos, al, cs_0, cs_length, cs_take, cs_all, cs_lows, cs_drop20, cs_dats, mcs_0', mcs_2, mcs_3, mcs_8', mcs_9', mcs_len, mcs_take, mcs_all, mcs_lows, fillA, mcs_if, vcs_if, if_pos (cs_cell2 v), -AV.isCell, isCell_d]
            simp only [toDVs, toV, toS]
            rfl
          | true =>
            rcases ph_cases hp h2 with rfl | rfl | rfl | rfl
            · have h6 : True := trivial
              obtain ⟨e1, e2, e3, e4⟩ := tol_no (show cntB v 0 o m = false by simp [cntB, kindS, h1, h2, h3, h4, h5])
              simp only [e1, e2, e3, e4]
              simp [cf13, V_av, SW_av, Mg_av, -getElem?_pos, h1, h2, h3, h4, h5, cs_0, cs_length, cs_take, cs_all, cs_lows, cs_drop20, cs_dats, mcs_0', mcs_2, mcs_3, mcs_8', mcs_9', mcs_len, mcs_take, mcs_all, mcs_lows, fillA, mcs_if, vcs_if, if_pos (cs_cell2 v), -AV.isCell, isCell_d]
              refine onGt_go (rest := RTo) rfl ?_
              simp [RTo, -getElem?_pos, al, cs_0, cs_length, cs_take, cs_all, cs_lows, cs_drop20, cs_dats, mcs_0', mcs_2, mcs_3, mcs_8', mcs_9', mcs_len, mcs_take, mcs_all, mcs_lows, fillA, mcs_if, vcs_if, if_pos (cs_cell2 v), -AV.isCell, isCell_d]
              simp only [toDVs, toV, toS]
              rfl
            · cases h6 : m.kind == 7 with
              | false =>
                obtain ⟨e1, e2, e3, e4⟩ := tol_no (show cntB v 1 o m = false by simp [cntB, kindS, h1, h2, h3, h4, h5, h6, w67])
                simp only [e1, e2, e3, e4]
                simp [cf13, V_av, SW_av, Mg_av, -getElem?_pos, h1, h2, h3, h4, h5, h6, w67, cs_0, cs_length, cs_take, cs_all, cs_lows, cs_drop20, cs_dats, mcs_0', mcs_2, mcs_3, mcs_8', mcs_9', mcs_len, mcs_take, mcs_all, mcs_lows, fillA, mcs_if, vcs_if, if_pos (cs_cell2 v), -AV.isCell, isCell_d]
                refine onGt_go (rest := RTo) rfl ?_
                simp [RTo, -getElem?_pos, al, cs_0, cs_length, cs_take, cs_all, cs_lows, cs_drop20, cs_dats, mcs_0', mcs_2, mcs_3, mcs_8', mcs_9', mcs_len, mcs_take, mcs_all, mcs_lows, fillA, mcs_if, vcs_if, if_pos (cs_cell2 v), -AV.isCell, isCell_d]
                simp only [toDVs, toV, toS]
                rfl
              | true =>
                have hc : cntB v 1 o m = true := by simp [cntB, kindS, h1, h2, h3, h4, h5, h6]
                have hll : v.cs.take 2 ++ vsI (makeL v.id m.src m.lst) :: v.cs.drop 3 = (newV v m).cs := cs_layL v (makeL v.id m.src m.lst) (makeL_63 _ _ _)
                generalize hu : newV v m = u at hll
                have hul := cs_length u
                have hid : u.id = v.id := by rw [← hu]; rfl
                by_cases h7 : 0 ≤ m.pred
                · cases h8 : inB v.id m.pred m.src with
                  | true =>
                    have e1 : tolV v 1 o m = u := by simp [tolV, hc, hu]
                    have e2 : tolP v 1 o m = 2 := by simp [tolP, hc, ahead, h7, h8]
                    have e3 : tolO v 1 o m = m.pred := by simp [tolO, hc, ahead, hu, h7, h8]
                    have e4 : tolA v 1 o m = some (1, m.pred, 2) := by simp [tolA, hc, e2, e3, kindS]
                    simp only [e1, e2, e3, e4]
                    simp [cf13, V_av, SW_av, Mg_av, -getElem?_pos, h1, h2, h3, h4, h5, h6, w67, hll, hul, hid, h7, h8, cs_0, cs_length, cs_take, cs_all, cs_lows, cs_drop20, cs_dats, mcs_0', mcs_2, mcs_3, mcs_8', mcs_9', mcs_len, mcs_take, mcs_all, mcs_lows, fillA, mcs_if, vcs_if, if_pos (cs_cell2 v), -AV.isCell, isCell_d, if_pos (cs_cell2 u)]
                    have hLIM : 1 ≤ LIM := by decide
                    refine WLPC_fn (cf := cf39) rfl rfl rfl (by simp [AV.lows, AV.lows.go, -getElem?_pos, cs_0, cs_length, cs_take, cs_all, cs_lows, cs_drop20, mcs_if, vcs_if, if_pos (cs_cell2 u), -AV.isCell, isCell_d, isCell_n, isCell_ws]) ?_
                    simp [cf39, afterPC, hideT, -getElem?_pos, dats?, AV.dat?, cs_0, cs_length, cs_take, cs_all, cs_lows, cs_drop20, mcs_if, vcs_if, if_pos (cs_cell2 u), -AV.isCell, isCell_d, isCell_n, isCell_ws]
                    refine WLPC_fn (cf := cf38) rfl rfl rfl (by simp [AV.lows, AV.lows.go, -getElem?_pos, cs_0, cs_length, cs_take, cs_all, cs_lows, cs_drop20, mcs_if, vcs_if, if_pos (cs_cell2 u), -AV.isCell, isCell_d, isCell_n, isCell_ws]) ?_
                    simp [cf38, afterPC, hideT, -getElem?_pos, cs_0, cs_length, cs_take, cs_all, cs_lows, cs_drop20, mcs_if, vcs_if, if_pos (cs_cell2 u), -AV.isCell, isCell_d, isCell_n, isCell_ws]
                    refine WLC_fn (cf := cf80) rfl rfl rfl ?_
                    simp [cf80, afterC, -getElem?_pos, cs_0, cs_length, cs_take, cs_all, cs_lows, cs_drop20, mcs_if, vcs_if, if_pos (cs_cell2 u), -AV.isCell, isCell_d, isCell_n, isCell_ws]
                    refine WL_range (cf := cf81) rfl rfl rfl rfl ?_
                    simp [cf81, -getElem?_pos, fillA, dats?, AV.dat?, chunk, rows?, cs_0, cs_length, cs_take, cs_all, cs_lows, cs_drop20, mcs_if, vcs_if, if_pos (cs_cell2 u), -AV.isCell, isCell_d, isCell_n, isCell_ws]
                    refine WLC_yld rfl rfl rfl ?_
                    simp [bindPs, afterY, afterR, afterC, afterPC, hideT, -getElem?_pos, fillA, dats?, AV.dat?, chunk, rows?, rowsOk, hLIM, cs_0, cs_length, cs_take, cs_all, cs_lows, cs_drop20, mcs_if, vcs_if, if_pos (cs_cell2 u), -AV.isCell, isCell_d, isCell_n, isCell_ws]
                    refine ⟨mcs_low m _ _, ?_⟩
                    simp only [toDVs, toV, toS]
                    rfl
                  | false =>
                    have e1 : tolV v 1 o m = u := by simp [tolV, hc, hu]
                    have e2 : tolP v 1 o m = 3 := by simp [tolP, hc, ahead, h7, h8]
                    have e3 : tolO v 1 o m = u.first := by simp [tolO, hc, ahead, hu, h7, h8]
                    have e4 : tolA v 1 o m = some (3, u.first, 3) := by simp [tolA, hc, e2, e3, kindS]
                    simp only [e1, e2, e3, e4]
                    simp [cf13, V_av, SW_av, Mg_av, -getElem?_pos, h1, h2, h3, h4, h5, h6, w67, hll, hul, hid, h7, h8, cs_0, cs_length, cs_take, cs_all, cs_lows, cs_drop20, cs_dats, mcs_0', mcs_2, mcs_3, mcs_8', mcs_9', mcs_len, mcs_take, mcs_all, mcs_lows, fillA, mcs_if, vcs_if, if_pos (cs_cell2 v), -AV.isCell, isCell_d, if_pos (cs_cell2 u)]
                    have hLIM : 1 ≤ LIM := by decide
                    refine WLPC_fn (cf := cf39) rfl rfl rfl (by simp [AV.lows, AV.lows.go, -getElem?_pos, cs_0, cs_length, cs_take, cs_all, cs_lows, cs_drop20, mcs_if, vcs_if, if_pos (cs_cell2 u), -AV.isCell, isCell_d, isCell_n, isCell_ws]) ?_
                    simp [cf39, afterPC, hideT, -getElem?_pos, dats?, AV.dat?, cs_0, cs_length, cs_take, cs_all, cs_lows, cs_drop20, mcs_if, vcs_if, if_pos (cs_cell2 u), -AV.isCell, isCell_d, isCell_n, isCell_ws]
                    refine WLPC_fn (cf := cf38) rfl rfl rfl (by simp [AV.lows, AV.lows.go, -getElem?_pos, cs_0, cs_length, cs_take, cs_all, cs_lows, cs_drop20, mcs_if, vcs_if, if_pos (cs_cell2 u), -AV.isCell, isCell_d, isCell_n, isCell_ws]) ?_
                    simp [cf38, afterPC, hideT, -getElem?_pos, cs_0, cs_length, cs_take, cs_all, cs_lows, cs_drop20, mcs_if, vcs_if, if_pos (cs_cell2 u), -AV.isCell, isCell_d, isCell_n, isCell_ws]
                    refine WLC_fn (cf := cf80) rfl rfl rfl ?_
                    simp [cf80, afterC, -getElem?_pos, cs_0, cs_length, cs_take, cs_all, cs_lows, cs_drop20, mcs_if, vcs_if, if_pos (cs_cell2 u), -AV.isCell, isCell_d, isCell_n, isCell_ws]
                    refine WL_range (cf := cf81) rfl rfl rfl rfl ?_
                    simp [cf81, -getElem?_pos, fillA, dats?, AV.dat?, chunk, rows?, cs_0, cs_length, cs_take, cs_all, cs_lows, cs_drop20, mcs_if, vcs_if, if_pos (cs_cell2 u), -AV.isCell, isCell_d, isCell_n, isCell_ws]
                    refine WLC_yld rfl rfl rfl ?_
                    simp [bindPs, afterY, afterR, afterC, afterPC, hideT, -getElem?_pos, fillA, dats?, AV.dat?, chunk, rows?, rowsOk, hLIM, cs_0, cs_length, cs_take, cs_all, cs_lows, cs_drop20, mcs_if, vcs_if, if_pos (cs_cell2 u), -AV.isCell, isCell_d, isCell_n, isCell_ws]
                    refine ⟨mcs_low m _ _, ?_⟩
                    simp only [toDVs, toV, toS]
                    rfl
                ·
                  have e1 : tolV v 1 o m = u := by simp [tolV, hc, hu]
                  have e2 : tolP v 1 o m = 3 := by simp [tolP, hc, ahead, h7]
                  have e3 : tolO v 1 o m = u.first := by simp [tolO, hc, ahead, hu, h7]
                  have e4 : tolA v 1 o m = some (3, u.first, 3) := by simp [tolA, hc, e2, e3, kindS]
                  simp only [e1, e2, e3, e4]
                  simp [cf13, V_av, SW_av, Mg_av, -getElem?_pos, h1, h2, h3, h4, h5, h6, w67, hll, hul, hid, h7, cs_0, cs_length, cs_take, cs_all, cs_lows, cs_drop20, cs_dats, mcs_0', mcs_2, mcs_3, mcs_8', mcs_9', mcs_len, mcs_take, mcs_all, mcs_lows, fillA, mcs_if, vcs_if, if_pos (cs_cell2 v), -AV.isCell, isCell_d, if_pos (cs_cell2 u)]
                  have hLIM : 1 ≤ LIM := by decide
                  refine WLPC_fn (cf := cf39) rfl rfl rfl (by simp [AV.lows, AV.lows.go, -getElem?_pos, cs_0, cs_length, cs_take, cs_all, cs_lows, cs_drop20, mcs_if, vcs_if, if_pos (cs_cell2 u), -AV.isCell, isCell_d, isCell_n, isCell_ws]) ?_
                  simp [cf39, afterPC, hideT, -getElem?_pos, dats?, AV.dat?, cs_0, cs_length, cs_take, cs_all, cs_lows, cs_drop20, mcs_if, vcs_if, if_pos (cs_cell2 u), -AV.isCell, isCell_d, isCell_n, isCell_ws]
                  refine WLPC_fn (cf := cf38) rfl rfl rfl (by simp [AV.lows, AV.lows.go, -getElem?_pos, cs_0, cs_length, cs_take, cs_all, cs_lows, cs_drop20, mcs_if, vcs_if, if_pos (cs_cell2 u), -AV.isCell, isCell_d, isCell_n, isCell_ws]) ?_
                  simp [cf38, afterPC, hideT, -getElem?_pos, cs_0, cs_length, cs_take, cs_all, cs_lows, cs_drop20, mcs_if, vcs_if, if_pos (cs_cell2 u), -AV.isCell, isCell_d, isCell_n, isCell_ws]
                  refine WLC_fn (cf := cf80) rfl rfl rfl ?_
                  simp [cf80, afterC, -getElem?_pos, cs_0, cs_length, cs_take, cs_all, cs_lows, cs_drop20, mcs_if, vcs_if, if_pos (cs_cell2 u), -AV.isCell, isCell_d, isCell_n, isCell_ws]
                  refine WL_range (cf := cf81) rfl rfl rfl rfl ?_
                  simp [cf81, -getElem?_pos, fillA, dats?, AV.dat?, chunk, rows?, cs_0, cs_length, cs_take, cs_all, cs_lows, cs_drop20, mcs_if, vcs_if, if_pos (cs_cell2 u), -AV.isCell, isCell_d, isCell_n, isCell_ws]
                  refine WLC_yld rfl rfl rfl ?_
                  simp [bindPs, afterY, afterR, afterC, afterPC, hideT, -getElem?_pos, fillA, dats?, AV.dat?, chunk, rows?, rowsOk, hLIM, cs_0, cs_length, cs_take, cs_all, cs_lows, cs_drop20, mcs_if, vcs_if, if_pos (cs_cell2 u), -AV.isCell, isCell_d, isCell_n, isCell_ws]
                  refine ⟨mcs_low m _ _, ?_⟩
                  simp only [toDVs, toV, toS]
                  rfl
            · cases h6 : m.kind == 7 with
              | false =>
                obtain ⟨e1, e2, e3, e4⟩ := tol_no (show cntB v 2 o m = false by simp [cntB, kindS, h1, h2, h3, h4, h5, h6, w67])
                simp only [e1, e2, e3, e4]
                simp [cf13, V_av, SW_av, Mg_av, -getElem?_pos, h1, h2, h3, h4, h5, h6, w67, cs_0, cs_length, cs_take, cs_all, cs_lows, cs_drop20, cs_dats, mcs_0', mcs_2, mcs_3, mcs_8', mcs_9', mcs_len, mcs_take, mcs_all, mcs_lows, fillA, mcs_if, vcs_if, if_pos (cs_cell2 v), -AV.isCell, isCell_d]
                refine onGt_go (rest := RTo) rfl ?_
                simp [RTo, -getElem?_pos, al, cs_0, cs_length, cs_take, cs_all, cs_lows, cs_drop20, cs_dats, mcs_0', mcs_2, mcs_3, mcs_8', mcs_9', mcs_len, mcs_take, mcs_all, mcs_lows, fillA, mcs_if, vcs_if, if_pos (cs_cell2 v), -AV.isCell, isCell_d]
                simp only [toDVs, toV, toS]
                rfl
              | true =>
                have hc : cntB v 2 o m = true := by simp [cntB, kindS, h1, h2, h3, h4, h5, h6]
                have hll : v.cs.take 2 ++ vsI (makeL v.id m.src m.lst) :: v.cs.drop 3 = (newV v m).cs := cs_layL v (makeL v.id m.src m.lst) (makeL_63 _ _ _)
                generalize hu : newV v m = u at hll
                have hul := cs_length u
                have hid : u.id = v.id := by rw [← hu]; rfl
                have e1 : tolV v 2 o m = u := by simp [tolV, hc, hu]
                have e2 : tolP v 2 o m = 3 := by simp [tolP, hc, ahead]
                have e3 : tolO v 2 o m = u.first := by simp [tolO, hc, ahead, hu]
                have e4 : tolA v 2 o m = some (3, u.first, 3) := by simp [tolA, hc, e2, e3, kindS]
                simp only [e1, e2, e3, e4]
                simp [cf13, V_av, SW_av, Mg_av, -getElem?_pos, h1, h2, h3, h4, h5, h6, w67, hll, hul, hid, cs_0, cs_length, cs_take, cs_all, cs_lows, cs_drop20, cs_dats, mcs_0', mcs_2, mcs_3, mcs_8', mcs_9', mcs_len, mcs_take, mcs_all, mcs_lows, fillA, mcs_if, vcs_if, if_pos (cs_cell2 v), -AV.isCell, isCell_d, if_pos (cs_cell2 u)]
                have hLIM : 1 ≤ LIM := by decide
                refine WLPC_fn (cf := cf39) rfl rfl rfl (by simp [AV.lows, AV.lows.go, -getElem?_pos, cs_0, cs_length, cs_take, cs_all, cs_lows, cs_drop20, mcs_if, vcs_if, if_pos (cs_cell2 u), -AV.isCell, isCell_d, isCell_n, isCell_ws]) ?_
                simp [cf39, afterPC, hideT, -getElem?_pos, dats?, AV.dat?, cs_0, cs_length, cs_take, cs_all, cs_lows, cs_drop20, mcs_if, vcs_if, if_pos (cs_cell2 u), -AV.isCell, isCell_d, isCell_n, isCell_ws]
                refine WLPC_fn (cf := cf38) rfl rfl rfl (by simp [AV.lows, AV.lows.go, -getElem?_pos, cs_0, cs_length, cs_take, cs_all, cs_lows, cs_drop20, mcs_if, vcs_if, if_pos (cs_cell2 u), -AV.isCell, isCell_d, isCell_n, isCell_ws]) ?_
                simp [cf38, afterPC, hideT, -getElem?_pos, cs_0, cs_length, cs_take, cs_all, cs_lows, cs_drop20, mcs_if, vcs_if, if_pos (cs_cell2 u), -AV.isCell, isCell_d, isCell_n, isCell_ws]
                refine WLC_fn (cf := cf80) rfl rfl rfl ?_
                simp [cf80, afterC, -getElem?_pos, cs_0, cs_length, cs_take, cs_all, cs_lows, cs_drop20, mcs_if, vcs_if, if_pos (cs_cell2 u), -AV.isCell, isCell_d, isCell_n, isCell_ws]
                refine WL_range (cf := cf81) rfl rfl rfl rfl ?_
                simp [cf81, -getElem?_pos, fillA, dats?, AV.dat?, chunk, rows?, cs_0, cs_length, cs_take, cs_all, cs_lows, cs_drop20, mcs_if, vcs_if, if_pos (cs_cell2 u), -AV.isCell, isCell_d, isCell_n, isCell_ws]
                refine WLC_yld rfl rfl rfl ?_
                simp [bindPs, afterY, afterR, afterC, afterPC, hideT, -getElem?_pos, fillA, dats?, AV.dat?, chunk, rows?, rowsOk, hLIM, cs_0, cs_length, cs_take, cs_all, cs_lows, cs_drop20, mcs_if, vcs_if, if_pos (cs_cell2 u), -AV.isCell, isCell_d, isCell_n, isCell_ws]
                refine ⟨mcs_low m _ _, ?_⟩
                simp only [toDVs, toV, toS]
                rfl
            · cases h6 : m.kind == 9 with
              | false =>
                obtain ⟨e1, e2, e3, e4⟩ := tol_no (show cntB v 3 o m = false by simp [cntB, kindS, h1, h2, h3, h4, h5, h6, w69])
                simp only [e1, e2, e3, e4]
                simp [cf13, V_av, SW_av, Mg_av, -getElem?_pos, h1, h2, h3, h4, h5, h6, w69, cs_0, cs_length, cs_take, cs_all, cs_lows, cs_drop20, cs_dats, mcs_0', mcs_2, mcs_3, mcs_8', mcs_9', mcs_len, mcs_take, mcs_all, mcs_lows, fillA, mcs_if, vcs_if, if_pos (cs_cell2 v), -AV.isCell, isCell_d]
                refine onGt_go (rest := RTo) rfl ?_
                simp [RTo, -getElem?_pos, al, cs_0, cs_length, cs_take, cs_all, cs_lows, cs_drop20, cs_dats, mcs_0', mcs_2, mcs_3, mcs_8', mcs_9', mcs_len, mcs_take, mcs_all, mcs_lows, fillA, mcs_if, vcs_if, if_pos (cs_cell2 v), -AV.isCell, isCell_d]
                simp only [toDVs, toV, toS]
                rfl
              | true =>
                have hc : cntB v 3 o m = true := by simp [cntB, kindS, h1, h2, h3, h4, h5, h6]
                obtain ⟨e1, e2, e3, e4⟩ := tol_end hc
                simp only [e1, e2, e3, e4]
                simp [cf13, V_av, SW_av, Mg_av, -getElem?_pos, h1, h2, h3, h4, h5, h6, w69, al, cs_0, cs_length, cs_take, cs_all, cs_lows, cs_drop20, cs_dats, mcs_0', mcs_2, mcs_3, mcs_8', mcs_9', mcs_len, mcs_take, mcs_all, mcs_lows, fillA, mcs_if, vcs_if, if_pos (cs_cell2 v), -AV.isCell, isCell_d]
                simp only [toDVs, toV, toS]
                rfl
noncomputable abbrev stab_Told_F := told14_F
end Go.Proofs.YtfifgiopdbdeoaaDoor.Lite
namespace Go.Proofs.YtfifgiopdbdeoaaDoor.Lite
open Go
attribute [local simp] WL_of WL_nil WL_blk WL_skip WL_label WL_exit WL_goto WL_seq WL_block WL_cond WL_reg WL_ret WJ_nil WJ_ex WJ_gt WJ_rt WJ_exb WJ_gtb WJ_rtb WLO_nil WLO_call WO_nw stepN WO_mv WO_pick WO_new WO_box WO_ld WO_ldn WO_st WO_off WO_ixa WO_ixs WO_fld WO_fldn WO_ixv WO_ixvn WO_ixb WO_bin WO_eqb WO_isn WO_eqs WO_not WO_conv WO_mkf WO_bld WO_bls WO_sla WO_sls WO_sl0 WO_len WO_app WO_mnx WO_ext WO_nilc wants_none wants_some wantv_b wantv_t WLV_true WLV_false WLC_false WLB_true WLB_false evX_t evX_c evXs_nil evXs_cons look_put look_putN look_cons look_arg0 look_arg stepK binOpA intOp strOp evRes oneOf outs gc toDV AV.dat? I Bo av_s List.map List.append_nil getO putO AV.cellsOf bne WL_dreg WLP_nil WLP_call WP_mv WP_pick WP_new WP_box WP_ld WP_ldn WP_off WP_ixa WP_ixs WP_fld WP_fldn WP_ixv WP_ixvn WP_ixb WP_bin WP_eqb WP_isn WP_eqs WP_not WP_conv WP_mkf WP_bld WP_bls WP_sla WP_sls WP_sl0 WP_len WP_app WP_mnx WP_ext WP_nilc WLPV_true WLPV_false WLPC_false WLC_tells WLPC_tells padH onNm onEx List.getElem?_cons_zero List.getElem?_cons_succ List.getElem?_nil restrict AV.lows lay AV.isCell lowObj AObj.lows WJ_nm AV.lows.go WL_scope onGt_rt onGt_nm onGt_ex WL_sreg WP_st preSt eraseB List.set_cons_zero List.set_cons_succ frz cutR cutAs cutA WL_sregT cutB cutBs

noncomputable def cnt_F := orcOf (fun q : VW × (Int × Int) × MW => [V q.1, SW q.2.1.1 q.2.1.2, Mg q.2.2]) (fun q => tolOk q.1 q.2.1.1 q.2.2) (fun q => [Bo (cntB q.1 q.2.1.1 q.2.1.2 q.2.2)])
instance (v : VW) (p o : Int) (xs : List AV) (m : MW) [hm : AsM xs m] [h : Fact (tolOk v p m)] : Tells cnt_F [.agg v.cs, .agg [.d (.int .u8 p), .d (.int .i64 o)], .agg xs] (.d (.bool (cntB v p o m))) :=
  ⟨[V v, SW p o, Mg m], [Bo (cntB v p o m)], fun h => by simp only [toDVs, asM_to hm, toV, toS], orcOf_eq (enc := fun q : VW × (Int × Int) × MW => [V q.1, SW q.2.1.1 q.2.1.2, Mg q.2.2]) (x := (v, (p, o), m)) h.out (fun y h => by
    simp only [V, SW, Mg, List.cons.injEq, DV.g.injEq, Dat.int.injEq, true_and, and_true] at h
    exact Prod.ext (VW.inj h.1) (Prod.ext (Prod.ext h.2.1.1 h.2.1.2) (MW.inj h.2.2))), rfl, by simp [AV.tied, hm.t], fun N M => by simp [AV.lows, AV.lows.go, cs_lows, hm.l]⟩
noncomputable def TRC : Tbl := tbl [(22, garlandref13_Right_F), (19, garlandref14_Right_F), (25, garlandref06_Right_F)]
theorem TRC_ok : TblOK Tryd.prog TRC := tbl_ok (by
  simp only [List.mem_cons, List.not_mem_nil, or_false]
  rintro p (rfl | rfl | rfl)
  · exact garlandref13_Right
  · exact garlandref14_Right
  · exact garlandref06_Right)
instance : Has TRC 22 garlandref13_Right_F := ⟨rfl⟩
instance : Has TRC 19 garlandref14_Right_F := ⟨rfl⟩
instance : Has TRC 25 garlandref06_Right_F := ⟨rfl⟩

set_option maxHeartbeats 4000000 in
theorem garlandref14_counts : Pure Tryd.prog 47 cnt_F := by
  refine con TRC_ok rfl rfl fun ⟨v, ⟨p, o⟩, m⟩ hq => ⟨rfl, ?_⟩
  obtain ⟨hv, hp, hm, hl⟩ := hq
  simp only at hv hp hm hl
  haveI : Fact (phOk p) := ⟨hp⟩
  haveI : Fact (m.call < 9223372036854775808) := ⟨hm⟩
  cases h1 : v.right with
  | false =>
    simp [cf47, V_av, SW_av, Mg_av, -getElem?_pos, h1, cs_0, cs_length, cs_take, cs_all, cs_lows, mcs_0', mcs_2, mcs_3, mcs_len, mcs_take, mcs_all, mcs_lows, cntB]
  | true =>
    cases h2 : stabRight p o with
    | false =>
      simp [cf47, V_av, SW_av, Mg_av, -getElem?_pos, h1, h2, cs_0, cs_length, cs_take, cs_all, cs_lows, mcs_0', mcs_2, mcs_3, mcs_len, mcs_take, mcs_all, mcs_lows, cntB]
    | true =>
      rcases ph_cases hp h2 with rfl | rfl | rfl | rfl
      all_goals
        simp [cf47, V_av, SW_av, Mg_av, -getElem?_pos, h1, h2, cs_0, cs_length, cs_take, cs_all, cs_lows, mcs_0', mcs_2, mcs_3, mcs_len, mcs_take, mcs_all, mcs_lows, cntB, kindS]
      all_goals (cases h3 : m.right <;> cases h4 : (m.src == o) <;> cases h5 : (m.dest == v.id) <;> simp [-getElem?_pos, h3, h4, h5, cs_0, mcs_0', mcs_2, mcs_3, mcs_len, mcs_take, mcs_all, mcs_lows])
noncomputable abbrev garlandref14_counts_F := cnt_F
theorem pred_place {m : MW} (h : m.right = true) (hk : (m.kind == 7) = true) (h0 : 0 ≤ m.pred) : isPlace m.pred = true := by
  have hk : m.kind = 7 := by simpa using hk
  have hf : m.fine = true := by
    unfold MW.right MW.has at h
    simp [hk] at h
    exact h.2
  unfold MW.fine at hf
  simp [hk] at hf
  rcases hf.1 with h1 | h1
  · omega
  · exact h1
noncomputable def TRT : Tbl := tbl [(28, garlandref13_Own_F), (47, garlandref14_counts_F), (48, garlandref12_Make_F), (27, garlandref03_In_F), (40, garlandref13_First_F), (41, garlandref14_asks_F)]
theorem TRT_ok : TblOK Tryd.prog TRT := tbl_ok (by
  simp only [List.mem_cons, List.not_mem_nil, or_false]
  rintro p (rfl | rfl | rfl | rfl | rfl | rfl)
  · exact garlandref13_Own
  · exact garlandref14_counts
  · exact garlandref12_Make
  · exact garlandref03_In
  · exact garlandref13_First
  · exact garlandref14_asks)
instance : Has TRT 28 garlandref13_Own_F := ⟨rfl⟩
instance : Has TRT 47 garlandref14_counts_F := ⟨rfl⟩
instance : Has TRT 48 garlandref12_Make_F := ⟨rfl⟩
instance : Has TRT 27 garlandref03_In_F := ⟨rfl⟩
instance : Has TRT 40 garlandref13_First_F := ⟨rfl⟩
instance : Has TRT 41 garlandref14_asks_F := ⟨rfl⟩

set_option maxHeartbeats 4000000 in
theorem garlandref14_Told : Pure Tryd.prog 14 told14_F := by
  refine con TRT_ok rfl rfl fun ⟨v, ⟨p, o⟩, m⟩ hq => ⟨rfl, ?_⟩
  have hq' : tolOk v p m := hq
  obtain ⟨hv, hp, hm, hl⟩ := hq
  simp only at hv hp hm hl
  haveI : Fact v.small := ⟨hv⟩
  haveI : Fact (tolOk v p m) := ⟨hq'⟩
  haveI : Fact (m.lst.length ≤ 4294967290) := ⟨hl⟩
  have hlen := cs_length v
  cases hc : cntB v p o m with
  | false =>
    obtain ⟨e1, e2, e3, e4⟩ := tol_no hc
    simp only [e1, e2, e3, e4]
    simp [cf14, V_av, SW_av, Mg_av, -getElem?_pos, hc, cs_0, cs_length, cs_take, cs_all, cs_lows, cs_drop20, mcs_0', mcs_2, mcs_3, mcs_8', mcs_9', mcs_len, mcs_take, mcs_all, mcs_lows, fillA, mcs_if, vcs_if, if_pos (cs_cell2 v), -AV.isCell, isCell_d, al]
    simp only [toDVs, toV, toS]
    rfl
  | true =>
    have hr : v.right = true ∧ stabRight p o = true ∧ m.right = true ∧ (m.kind == kindS p + 6) = true ∧ (p == 0) = false := by
      unfold cntB at hc
      simp only [Bool.and_eq_true, Bool.not_eq_true'] at hc
      exact ⟨hc.1.1.1.1.1.1, hc.1.1.1.1.1.2, hc.1.1.1.2, hc.2, hc.1.1.1.1.2⟩
    obtain ⟨h1, h2, h3, h6, h0⟩ := hr
    rcases ph_cases hp h2 with rfl | rfl | rfl | rfl
    · cases h0
    · have hll : v.cs.take 2 ++ vsI (makeL v.id m.src m.lst) :: v.cs.drop 3 = (newV v m).cs := cs_layL v (makeL v.id m.src m.lst) (makeL_63 _ _ _)
      have hur : (newV v m).right = true := withL_right h1 (makeL_right _ _ _)
      generalize hu : newV v m = u at hll hur
      have hul := cs_length u
      have hid : u.id = v.id := by rw [← hu]; rfl
      haveI : Fact (((3 : Int) = 1 ∨ (3 : Int) = 2 ∨ (3 : Int) = 3) ∧ isPlace u.first = true) := ⟨.inr (.inr rfl), first_place hur⟩
      have e1 : tolV v 1 o m = u := by simp [tolV, hc, hu]
      by_cases h7 : 0 ≤ m.pred
      · haveI : Fact (((2 : Int) = 1 ∨ (2 : Int) = 2 ∨ (2 : Int) = 3) ∧ isPlace m.pred = true) := ⟨.inr (.inl rfl), pred_place h3 (by simpa [kindS] using h6) h7⟩
        cases h8 : inB v.id m.pred m.src with
        | true =>
          have e2 : tolP v 1 o m = 2 := by simp [tolP, hc, ahead, h7, h8]
          have e3 : tolO v 1 o m = m.pred := by simp [tolO, hc, ahead, hu, h7, h8]
          have e4 : tolA v 1 o m = some (1, m.pred, 2) := by simp [tolA, hc, e2, e3, kindS]
          simp only [e1, e2, e3, e4]
          simp [cf14, V_av, SW_av, Mg_av, -getElem?_pos, hc, h7, h8, hll, hul, hid, cs_0, cs_length, cs_take, cs_all, cs_lows, cs_drop20, mcs_0', mcs_2, mcs_3, mcs_8', mcs_9', mcs_len, mcs_take, mcs_all, mcs_lows, fillA, mcs_if, vcs_if, if_pos (cs_cell2 v), if_pos (cs_cell2 u), -AV.isCell, isCell_d, al]
          simp only [toDVs, toV, toS]
          rfl
        | false =>
          have e2 : tolP v 1 o m = 3 := by simp [tolP, hc, ahead, h8]
          have e3 : tolO v 1 o m = u.first := by simp [tolO, hc, ahead, hu, h8]
          have e4 : tolA v 1 o m = some (3, u.first, 3) := by simp [tolA, hc, e2, e3, kindS]
          simp only [e1, e2, e3, e4]
          simp [cf14, V_av, SW_av, Mg_av, -getElem?_pos, hc, h7, h8, hll, hul, hid, cs_0, cs_length, cs_take, cs_all, cs_lows, cs_drop20, mcs_0', mcs_2, mcs_3, mcs_8', mcs_9', mcs_len, mcs_take, mcs_all, mcs_lows, fillA, mcs_if, vcs_if, if_pos (cs_cell2 v), if_pos (cs_cell2 u), -AV.isCell, isCell_d, al]
          simp only [toDVs, toV, toS]
          rfl
      · have e2 : tolP v 1 o m = 3 := by simp [tolP, hc, ahead, h7]
        have e3 : tolO v 1 o m = u.first := by simp [tolO, hc, ahead, hu, h7]
        have e4 : tolA v 1 o m = some (3, u.first, 3) := by simp [tolA, hc, e2, e3, kindS]
        simp only [e1, e2, e3, e4]
        simp [cf14, V_av, SW_av, Mg_av, -getElem?_pos, hc, h7, hll, hul, hid, cs_0, cs_length, cs_take, cs_all, cs_lows, cs_drop20, mcs_0', mcs_2, mcs_3, mcs_8', mcs_9', mcs_len, mcs_take, mcs_all, mcs_lows, fillA, mcs_if, vcs_if, if_pos (cs_cell2 v), if_pos (cs_cell2 u), -AV.isCell, isCell_d, al]
        simp only [toDVs, toV, toS]
        rfl
    · have hll : v.cs.take 2 ++ vsI (makeL v.id m.src m.lst) :: v.cs.drop 3 = (newV v m).cs := cs_layL v (makeL v.id m.src m.lst) (makeL_63 _ _ _)
      have hur : (newV v m).right = true := withL_right h1 (makeL_right _ _ _)
      generalize hu : newV v m = u at hll hur
      have hul := cs_length u
      have hid : u.id = v.id := by rw [← hu]; rfl
      haveI : Fact (((3 : Int) = 1 ∨ (3 : Int) = 2 ∨ (3 : Int) = 3) ∧ isPlace u.first = true) := ⟨.inr (.inr rfl), first_place hur⟩
      have e1 : tolV v 2 o m = u := by simp [tolV, hc, hu]
      have e2 : tolP v 2 o m = 3 := by simp [tolP, hc, ahead]
      have e3 : tolO v 2 o m = u.first := by simp [tolO, hc, ahead, hu]
      have e4 : tolA v 2 o m = some (3, u.first, 3) := by simp [tolA, hc, e2, e3, kindS]
      simp only [e1, e2, e3, e4]
      simp [cf14, V_av, SW_av, Mg_av, -getElem?_pos, hc, hll, hul, hid, cs_0, cs_length, cs_take, cs_all, cs_lows, cs_drop20, mcs_0', mcs_2, mcs_3, mcs_8', mcs_9', mcs_len, mcs_take, mcs_all, mcs_lows, fillA, mcs_if, vcs_if, if_pos (cs_cell2 v), if_pos (cs_cell2 u), -AV.isCell, isCell_d, al]
      simp only [toDVs, toV, toS]
      rfl
    · obtain ⟨e1, e2, e3, e4⟩ := tol_end hc
      simp only [e1, e2, e3, e4]
      simp [cf14, V_av, SW_av, Mg_av, -getElem?_pos, hc, cs_0, cs_length, cs_take, cs_all, cs_lows, cs_drop20, mcs_0', mcs_2, mcs_3, mcs_8', mcs_9', mcs_len, mcs_take, mcs_all, mcs_lows, fillA, mcs_if, vcs_if, if_pos (cs_cell2 v), -AV.isCell, isCell_d, al]
      simp only [toDVs, toV, toS]
      rfl
noncomputable abbrev garlandref14_Told_F := told14_F

/-! ### one is dead -/
instance (v : VW) (d : Int) [h : Fact v.small] : Tells dead_F [.agg v.cs, .d (.int .i64 d)] (.agg (v.dead d).cs) :=
  ⟨[V v, I d], [V (v.dead d)], fun h => by simp only [toDVs, toV]; rfl, orcOf_eq (enc := fun p : VW × Int => [V p.1, I p.2]) (x := (v, d)) h.out (fun y h => by
    simp only [V, I, List.cons.injEq, DV.g.injEq, DV.s.injEq, Dat.int.injEq, true_and, and_true] at h
    exact Prod.ext (VW.inj h.1) h.2), by simp only [oneOf, List.map, V_av], rfl, fun _ _ => by simp [AV.lows, cs_lows]⟩
def faiB (v : VW) (p o d : Int) : Bool := v.right && stabRight p o
def faiV (v : VW) (p o d : Int) : VW := bif faiB v p o d then v.dead d else v
def faiZ (v : VW) (p o d : Int) : Bool := faiB v p o d && !(p == 0) && (o == d)
def faiP (v : VW) (p o d : Int) : Int := bif faiZ v p o d then 0 else p
def faiO (v : VW) (p o d : Int) : Int := bif faiZ v p o d then 0 else o
noncomputable def failed_F := orcOf (fun q : VW × (Int × Int) × Int => [V q.1, SW q.2.1.1 q.2.1.2, I q.2.2]) (fun q => q.1.small ∧ phOk q.2.1.1) (fun q => [V (faiV q.1 q.2.1.1 q.2.1.2 q.2.2), SW (faiP q.1 q.2.1.1 q.2.1.2 q.2.2) (faiO q.1 q.2.1.1 q.2.1.2 q.2.2)])
instance (v : VW) (p o d : Int) [hv : Fact v.small] [h : Fact (phOk p)] : Tells failed_F [.agg v.cs, .agg [.d (.int .u8 p), .d (.int .i64 o)], .d (.int .i64 d)] (.tup [.agg (faiV v p o d).cs, .agg [.d (.int .u8 (faiP v p o d)), .d (.int .i64 (faiO v p o d))]]) :=
  ⟨[V v, SW p o, I d], [V (faiV v p o d), SW (faiP v p o d) (faiO v p o d)], fun h => by simp only [toDVs, toV, toS]; rfl, orcOf_eq (enc := fun q : VW × (Int × Int) × Int => [V q.1, SW q.2.1.1 q.2.1.2, I q.2.2]) (x := (v, (p, o), d)) ⟨hv.out, h.out⟩ (fun y h => by
    simp only [V, SW, I, List.cons.injEq, DV.g.injEq, DV.s.injEq, Dat.int.injEq, true_and, and_true] at h
    exact Prod.ext (VW.inj h.1) (Prod.ext (Prod.ext h.2.1.1 h.2.1.2) h.2.2)), by simp only [oneOf, List.map, V_av, SW_av], rfl, fun N M => by simp [AV.lows, AV.lows.go, cs_lows]⟩
noncomputable def TSF : Tbl := tbl [(43, view_Own_F), (36, view_Right_F), (18, stab_Right_F), (49, view_Dead_F)]
theorem TSF_ok : TblOK Tryd.prog TSF := tbl_ok (by
  simp only [List.mem_cons, List.not_mem_nil, or_false]
  rintro p (rfl | rfl | rfl | rfl)
  · exact view_Own
  · exact view_Right
  · exact stab_Right
  · exact view_Dead)
instance : Has TSF 43 view_Own_F := ⟨rfl⟩
instance : Has TSF 36 view_Right_F := ⟨rfl⟩
instance : Has TSF 18 stab_Right_F := ⟨rfl⟩
instance : Has TSF 49 view_Dead_F := ⟨rfl⟩

set_option maxHeartbeats 4000000 in
theorem stab_Failed : Pure Tryd.prog 16 failed_F := by
  refine con TSF_ok rfl rfl fun ⟨v, ⟨p, o⟩, d⟩ hq => ⟨rfl, ?_⟩
  obtain ⟨hv, hp⟩ := hq
  simp only at hv hp
  haveI : Fact v.small := ⟨hv⟩
  haveI : Fact (phOk p) := ⟨hp⟩
  have hlen := cs_length v
  have hpos : decide (p > 0) = !(p == 0) := by obtain ⟨h1, h2⟩ := hp; rw [Bool.eq_iff_iff]; simp; omega
  have hpos2 : decide (0 < p) = !(p == 0) := hpos
  cases h1 : v.right with
  | false =>
    simp [cf16, V_av, SW_av, I, -getElem?_pos, h1, cs_length, cs_take, cs_all, cs_lows, cs_drop20, fillA, vcs_if, if_pos (cs_cell2 v), -AV.isCell, isCell_d, faiV, faiP, faiO, faiZ, faiB]
    simp only [toDVs, toV, toS]
  | true =>
    cases h2 : stabRight p o with
    | false =>
      simp [cf16, V_av, SW_av, I, -getElem?_pos, h1, h2, cs_length, cs_take, cs_all, cs_lows, cs_drop20, fillA, vcs_if, if_pos (cs_cell2 v), -AV.isCell, isCell_d, faiV, faiP, faiO, faiZ, faiB]
      simp only [toDVs, toV, toS]
    | true =>
      generalize hw : v.dead d = w
      cases h3 : p == 0 <;> cases h4 : o == d
      all_goals
        rw [h3] at hpos hpos2
        simp [cf16, V_av, SW_av, I, -getElem?_pos, h1, h2, hw, h3, h4, hpos, hpos2, cs_length, cs_take, cs_all, cs_lows, cs_drop20, fillA, vcs_if, if_pos (cs_cell2 v), if_pos (cs_cell2 w), -AV.isCell, isCell_d, faiV, faiP, faiO, faiZ, faiB]
      all_goals (simp only [toDVs, toV, toS])
noncomputable abbrev stab_Failed_F := failed_F
noncomputable def TRX : Tbl := tbl [(28, garlandref13_Own_F), (22, garlandref13_Right_F), (19, garlandref14_Right_F), (29, garlandref13_Dead_F)]
theorem TRX_ok : TblOK Tryd.prog TRX := tbl_ok (by
  simp only [List.mem_cons, List.not_mem_nil, or_false]
  rintro p (rfl | rfl | rfl | rfl)
  · exact garlandref13_Own
  · exact garlandref13_Right
  · exact garlandref14_Right
  · exact garlandref13_Dead)
instance : Has TRX 28 garlandref13_Own_F := ⟨rfl⟩
instance : Has TRX 22 garlandref13_Right_F := ⟨rfl⟩
instance : Has TRX 19 garlandref14_Right_F := ⟨rfl⟩
instance : Has TRX 29 garlandref13_Dead_F := ⟨rfl⟩

set_option maxHeartbeats 4000000 in
theorem garlandref14_Failed : Pure Tryd.prog 17 failed_F := by
  refine con TRX_ok rfl rfl fun ⟨v, ⟨p, o⟩, d⟩ hq => ⟨rfl, ?_⟩
  obtain ⟨hv, hp⟩ := hq
  simp only at hv hp
  haveI : Fact v.small := ⟨hv⟩
  haveI : Fact (phOk p) := ⟨hp⟩
  have hlen := cs_length v
  cases h1 : v.right with
  | false =>
    simp [cf17, V_av, SW_av, I, -getElem?_pos, h1, cs_length, cs_take, cs_all, cs_lows, cs_drop20, fillA, vcs_if, if_pos (cs_cell2 v), -AV.isCell, isCell_d, faiV, faiP, faiO, faiZ, faiB]
    simp only [toDVs, toV, toS]
  | true =>
    cases h2 : stabRight p o with
    | false =>
      simp [cf17, V_av, SW_av, I, -getElem?_pos, h1, h2, cs_length, cs_take, cs_all, cs_lows, cs_drop20, fillA, vcs_if, if_pos (cs_cell2 v), -AV.isCell, isCell_d, faiV, faiP, faiO, faiZ, faiB]
      simp only [toDVs, toV, toS]
    | true =>
      generalize hw : v.dead d = w
      cases h3 : p == 0 <;> cases h4 : o == d
      all_goals
        simp [cf17, V_av, SW_av, I, -getElem?_pos, h1, h2, hw, h3, h4, cs_length, cs_take, cs_all, cs_lows, cs_drop20, fillA, vcs_if, if_pos (cs_cell2 v), if_pos (cs_cell2 w), -AV.isCell, isCell_d, faiV, faiP, faiO, faiZ, faiB]
      all_goals (simp only [toDVs, toV, toS])
noncomputable abbrev garlandref14_Failed_F := failed_F
end Go.Proofs.YtfifgiopdbdeoaaDoor.Lite
namespace Go.Proofs.YtfifgiopdbdeoaaDoor.Lite
open Go

def isTrue : Option (AV × St) → Bool
  | some (.d (.bool true), st) => st.h.isEmpty
  | _ => false
theorem WC_true {T : Tbl} {f : Nat} {n : Nat} (h : isTrue (evCall T n ⟨[], 0⟩ (.fn f []) [] ⟨[], []⟩) = true) : WC T ⟨[], 0⟩ (.fn f []) [] ⟨[], []⟩ (fun y st' => outs st'.h y = some [Bo true]) := by
  unfold isTrue at h
  split at h
  · rename_i st he; exact ⟨n, _, _, he, rfl⟩
  · cases h
noncomputable def true_F := orcOf (fun _ : Unit => []) (fun _ => True) (fun _ => [Bo true])
instance : Tells true_F [] (.d (.bool true)) := ⟨[], [Bo true], fun _ => rfl, orcOf_eq (enc := fun _ : Unit => []) (x := ()) trivial (fun _ _ => rfl), rfl, rfl, fun _ _ => rfl⟩
set_option maxRecDepth 100000 in
theorem wakes14 : isTrue (evCall (tbl []) 300 ⟨[], 0⟩ (.fn 9 []) [] ⟨[], []⟩) = true := by kernel_rfl
theorem garlandlaw14_wakes : Pure Tryd.prog 9 true_F :=
  pure_of (T := tbl []) (tbl_ok (by simp)) rfl rfl fun dvs rs hF => by
    obtain ⟨x, hx, rfl, rfl⟩ := orcOf_inv hF
    exact WC_true wakes14
noncomputable abbrev garlandlaw14_wakes_F := true_F
end Go.Proofs.YtfifgiopdbdeoaaDoor.Lite
namespace Go.Proofs.YtfifgiopdbdeoaaDoor.Lite
open Go
attribute [local simp] WL_of WL_nil WL_blk WL_skip WL_label WL_exit WL_goto WL_seq WL_block WL_cond WL_reg WL_ret WJ_nil WJ_ex WJ_gt WJ_rt WJ_exb WJ_gtb WJ_rtb WLO_nil WLO_call WO_nw stepN WO_mv WO_pick WO_new WO_box WO_ld WO_ldn WO_st WO_off WO_ixa WO_ixs WO_fld WO_fldn WO_ixv WO_ixvn WO_ixb WO_bin WO_eqb WO_isn WO_eqs WO_not WO_conv WO_mkf WO_bld WO_bls WO_sla WO_sls WO_sl0 WO_len WO_app WO_mnx WO_ext WO_nilc wants_none wants_some wantv_b wantv_t WLV_true WLV_false WLC_false WLB_true WLB_false evX_t evX_c evXs_nil evXs_cons look_put look_putN look_cons look_arg0 look_arg stepK binOpA intOp strOp evRes oneOf outs gc toDV AV.dat? I Bo av_s List.map List.append_nil getO putO AV.cellsOf bne WL_dreg WLP_nil WLP_call WP_mv WP_pick WP_new WP_box WP_ld WP_ldn WP_off WP_ixa WP_ixs WP_fld WP_fldn WP_ixv WP_ixvn WP_ixb WP_bin WP_eqb WP_isn WP_eqs WP_not WP_conv WP_mkf WP_bld WP_bls WP_sla WP_sls WP_sl0 WP_len WP_app WP_mnx WP_ext WP_nilc WLPV_true WLPV_false WLPC_false WLC_tells WLPC_tells padH onNm onEx List.getElem?_cons_zero List.getElem?_cons_succ List.getElem?_nil restrict AV.lows lay AV.isCell lowObj AObj.lows WJ_nm AV.lows.go WL_scope onGt_rt onGt_nm onGt_ex WL_sreg WP_st preSt eraseB List.set_cons_zero List.set_cons_succ frz cutR cutAs cutA WL_sregT cutB cutBs

theorem cs_tied (v : VW) : (AV.agg v.cs).tied = false := rfl
theorem mcs_drop10 (m : MW) : m.cs[10]? = some (.d (.str m.ikey)) := rfl
def VW.great (v : VW) : Bool := decide (20 < v.base.length) || decide (20 < v.lst.length)
noncomputable def great_F := orcOf (fun v : VW => [V v]) (fun _ => True) (fun v => [Bo v.great])
instance (v : VW) : Tells great_F [.agg v.cs] (.d (.bool v.great)) :=
  ⟨[V v], [Bo v.great], fun h => by simp only [toDVs, toV], orcOf_eq (enc := fun v : VW => [V v]) (x := v) trivial (fun y h => by
    simp only [V, List.cons.injEq, DV.g.injEq, and_true] at h
    exact VW.inj h), rfl, rfl, fun _ _ => by simp [AV.lows, cs_lows]⟩
theorem garlandref13_Great : Pure Tryd.prog 33 great_F := by
  refine con (T := tbl []) (tbl_ok (by simp)) rfl rfl fun v _ => ⟨rfl, ?_⟩
  by_cases h1 : 20 < v.base.length <;> by_cases h2 : 20 < v.lst.length
  all_goals
    simp [cf33, V_av, -getElem?_pos, cs_1, cs_2, stepK.lenA, rowsI_length, VW.great, h1, h2, show ((20 : Int) < v.base.length) = (20 < v.base.length) from by rw [eq_iff_iff]; omega, show ((20 : Int) < v.lst.length) = (20 < v.lst.length) from by rw [eq_iff_iff]; omega]
noncomputable abbrev garlandref13_Great_F := great_F
def great14 (v : VW) (m : MW) : Bool := v.great || decide (20 < m.lst.length) || decide (100 < m.ikey.length)
noncomputable def great14_F := orcOf (fun q : VW × MW => [V q.1, Mg q.2]) (fun _ => True) (fun q => [Bo (great14 q.1 q.2)])
instance (v : VW) (xs : List AV) (m : MW) [h : AsM xs m] : Tells great14_F [.agg v.cs, .agg xs] (.d (.bool (great14 v m))) :=
  ⟨[V v, Mg m], [Bo (great14 v m)], fun hp => by simp only [toDVs, toV, asM_to h], orcOf_eq (enc := fun q : VW × MW => [V q.1, Mg q.2]) (x := (v, m)) trivial (fun y h => by
    simp only [V, Mg, List.cons.injEq, DV.g.injEq, and_true] at h
    exact Prod.ext (VW.inj h.1) (MW.inj h.2)), rfl, by simp [h.t, cs_tied], fun N M => by simp [AV.lows, h.l, cs_lows]⟩
noncomputable def TGR : Tbl := tbl [(33, garlandref13_Great_F)]
theorem TGR_ok : TblOK Tryd.prog TGR := tbl_ok (by
  simp only [List.mem_cons, List.not_mem_nil, or_false]
  rintro p (rfl)
  · exact garlandref13_Great)
instance : Has TGR 33 garlandref13_Great_F := ⟨rfl⟩

theorem garlandlaw14_great : Pure Tryd.prog 8 great14_F := by
  refine con TGR_ok rfl rfl fun ⟨v, m⟩ _ => ⟨rfl, ?_⟩
  cases hv : v.great <;> by_cases h1 : 20 < m.lst.length <;> by_cases h2 : 100 < m.ikey.length
  all_goals
    simp [cf8, V_av, Mg_av, -getElem?_pos, cs_length, cs_take, cs_all, cs_lows, mcs_9', mcs_drop10, mcs_len, mcs_take, mcs_all, mcs_lows, stepK.lenA, rowsI_length, great14, hv, h1, h2, show ((20 : Int) < m.lst.length) = (20 < m.lst.length) from by rw [eq_iff_iff]; omega, show ((100 : Int) < m.ikey.length) = (100 < m.ikey.length) from by rw [eq_iff_iff]; omega]
noncomputable abbrev garlandlaw14_great_F := great14_F
theorem eq_stab (p o p' o' : Int) : eqCells [0, 0] [.d (.int .u8 p), .d (.int .i64 o)] [.d (.int .u8 p'), .d (.int .i64 o')] = some (p == p' && o == o') := by
  cases h1 : p == p' <;> cases h2 : o == o' <;> simp only [eqCells, eqCell, h1, h2, if_true] <;> rfl
theorem VW.same_refl (v : VW) : v.same v = true := (VW.same_iff v v).2 rfl
noncomputable def TL1 : Tbl := tbl [(8, garlandlaw14_great_F), (9, garlandlaw14_wakes_F), (10, stab_Begin_F), (11, garlandref14_Begin_F), (12, garlandref14_Asks_F), (13, stab_Told_F), (14, garlandref14_Told_F), (15, garlandref13_Same_F), (16, stab_Failed_F), (17, garlandref14_Failed_F), (18, stab_Right_F), (19, garlandref14_Right_F), (20, stab_Why_F), (21, garlandref14_Why_F)]
theorem TL1_ok : TblOK Tryd.prog TL1 := tbl_ok (by
  simp only [List.mem_cons, List.not_mem_nil, or_false]
  rintro p (rfl | rfl | rfl | rfl | rfl | rfl | rfl | rfl | rfl | rfl | rfl | rfl | rfl | rfl)
  · exact garlandlaw14_great
  · exact garlandlaw14_wakes
  · exact stab_Begin
  · exact garlandref14_Begin
  · exact garlandref14_Asks
  · exact stab_Told
  · exact garlandref14_Told
  · exact garlandref13_Same
  · exact stab_Failed
  · exact garlandref14_Failed
  · exact stab_Right
  · exact garlandref14_Right
  · exact stab_Why
  · exact garlandref14_Why)
instance : Has TL1 8 garlandlaw14_great_F := ⟨rfl⟩
instance : Has TL1 9 garlandlaw14_wakes_F := ⟨rfl⟩
instance : Has TL1 10 stab_Begin_F := ⟨rfl⟩
instance : Has TL1 11 garlandref14_Begin_F := ⟨rfl⟩
instance : Has TL1 12 garlandref14_Asks_F := ⟨rfl⟩
instance : Has TL1 13 stab_Told_F := ⟨rfl⟩
instance : Has TL1 14 garlandref14_Told_F := ⟨rfl⟩
instance : Has TL1 15 garlandref13_Same_F := ⟨rfl⟩
instance : Has TL1 16 stab_Failed_F := ⟨rfl⟩
instance : Has TL1 17 garlandref14_Failed_F := ⟨rfl⟩
instance : Has TL1 18 stab_Right_F := ⟨rfl⟩
instance : Has TL1 19 garlandref14_Right_F := ⟨rfl⟩
instance : Has TL1 20 stab_Why_F := ⟨rfl⟩
instance : Has TL1 21 garlandref14_Why_F := ⟨rfl⟩

noncomputable def StabTells_F := orcOf (fun q : VW × (Int × Int) × MW × Int => [V q.1, SW q.2.1.1 q.2.1.2, Mg q.2.2.1, I q.2.2.2]) (fun q => phOk q.2.1.1 ∧ q.2.2.1.call < 9223372036854775808) (fun _ => [Bo true])
theorem great_small {v : VW} {m : MW} (h : great14 v m = false) : v.small ∧ m.lst.length ≤ 4294967290 := by
  simp [great14, VW.great] at h
  exact ⟨⟨by omega, by omega⟩, by omega⟩
set_option maxHeartbeats 4000000 in
theorem garlandlaw14_StabTells : Pure Tryd.prog 3 StabTells_F := by
  refine con TL1_ok rfl rfl fun ⟨v, ⟨p, o⟩, m, d⟩ hq => ⟨rfl, ?_⟩
  obtain ⟨hp, hm⟩ := hq
  simp only at hp hm
  haveI : Fact (phOk p) := ⟨hp⟩
  cases hg : great14 v m with
  | true =>
    simp [cf3, V_av, SW_av, Mg_av, I, -getElem?_pos, hg, cs_length, cs_take, cs_all, cs_lows, mcs_len, mcs_take, mcs_all, mcs_lows]
  | false =>
    obtain ⟨hv, hl⟩ := great_small hg
    haveI : Fact v.small := ⟨hv⟩
    haveI : Fact (tolOk v p m) := ⟨⟨hv, hp, hm, hl⟩⟩
    have c1 := cs_cell2 (tolV v p o m)
    have c2 := cs_cell2 (faiV v p o d)
    simp [cf3, V_av, SW_av, Mg_av, I, -getElem?_pos, hg, cs_length, cs_take, cs_all, cs_lows, cs_drop20, mcs_len, mcs_take, mcs_all, mcs_lows, mcs_if, vcs_if, fillA, eq_stab, VW.same_refl, if_pos c1, if_pos c2, -AV.isCell, isCell_d, isCell_n]
noncomputable abbrev garlandlaw14_StabTells_F := StabTells_F
end Go.Proofs.YtfifgiopdbdeoaaDoor.Lite
namespace Go.Proofs.YtfifgiopdbdeoaaDoor.Lite
open Go
attribute [local simp] WL_of WL_nil WL_blk WL_skip WL_label WL_exit WL_goto WL_seq WL_block WL_cond WL_reg WL_ret WJ_nil WJ_ex WJ_gt WJ_rt WJ_exb WJ_gtb WJ_rtb WLO_nil WLO_call WO_nw stepN WO_mv WO_pick WO_new WO_box WO_ld WO_ldn WO_st WO_off WO_ixa WO_ixs WO_fld WO_fldn WO_ixv WO_ixvn WO_ixb WO_bin WO_eqb WO_isn WO_eqs WO_not WO_conv WO_mkf WO_bld WO_bls WO_sla WO_sls WO_sl0 WO_len WO_app WO_mnx WO_ext WO_nilc wants_none wants_some wantv_b wantv_t WLV_true WLV_false WLC_false WLB_true WLB_false evX_t evX_c evXs_nil evXs_cons look_put look_putN look_cons look_arg0 look_arg stepK binOpA intOp strOp evRes oneOf outs gc toDV AV.dat? I Bo av_s List.map List.append_nil getO putO AV.cellsOf bne WL_dreg WLP_nil WLP_call WP_mv WP_pick WP_new WP_box WP_ld WP_ldn WP_off WP_ixa WP_ixs WP_fld WP_fldn WP_ixv WP_ixvn WP_ixb WP_bin WP_eqb WP_isn WP_eqs WP_not WP_conv WP_mkf WP_bld WP_bls WP_sla WP_sls WP_sl0 WP_len WP_app WP_mnx WP_ext WP_nilc WLPV_true WLPV_false WLPC_false WLC_tells WLPC_tells padH onNm onEx List.getElem?_cons_zero List.getElem?_cons_succ List.getElem?_nil restrict AV.lows lay AV.isCell lowObj AObj.lows WJ_nm AV.lows.go WL_scope onGt_rt onGt_nm onGt_ex WL_sreg WP_st preSt eraseB List.set_cons_zero List.set_cons_succ frz cutR cutAs cutA WL_sregT cutB cutBs

noncomputable def TL4 : Tbl := tbl [(8, garlandlaw14_great_F), (9, garlandlaw14_wakes_F), (22, garlandref13_Right_F), (19, garlandref14_Right_F), (13, stab_Told_F), (25, garlandref06_Right_F), (15, garlandref13_Same_F), (16, stab_Failed_F), (29, garlandref13_Dead_F)]
theorem TL4_ok : TblOK Tryd.prog TL4 := tbl_ok (by
  simp only [List.mem_cons, List.not_mem_nil, or_false]
  rintro p (rfl | rfl | rfl | rfl | rfl | rfl | rfl | rfl | rfl)
  · exact garlandlaw14_great
  · exact garlandlaw14_wakes
  · exact garlandref13_Right
  · exact garlandref14_Right
  · exact stab_Told
  · exact garlandref06_Right
  · exact garlandref13_Same
  · exact stab_Failed
  · exact garlandref13_Dead)
instance : Has TL4 8 garlandlaw14_great_F := ⟨rfl⟩
instance : Has TL4 9 garlandlaw14_wakes_F := ⟨rfl⟩
instance : Has TL4 22 garlandref13_Right_F := ⟨rfl⟩
instance : Has TL4 19 garlandref14_Right_F := ⟨rfl⟩
instance : Has TL4 13 stab_Told_F := ⟨rfl⟩
instance : Has TL4 25 garlandref06_Right_F := ⟨rfl⟩
instance : Has TL4 15 garlandref13_Same_F := ⟨rfl⟩
instance : Has TL4 16 stab_Failed_F := ⟨rfl⟩
instance : Has TL4 29 garlandref13_Dead_F := ⟨rfl⟩

noncomputable def StabNot_F := orcOf (fun q : VW × (Int × Int) × MW × Int => [V q.1, SW q.2.1.1 q.2.1.2, Mg q.2.2.1, I q.2.2.2]) (fun q => phOk q.2.1.1 ∧ q.2.2.1.call < 9223372036854775808) (fun _ => [Bo true])
theorem cnt_parts {v : VW} {p o : Int} {m : MW} (h : cntB v p o m = true) : (p == 0) = false ∧ m.right = true ∧ (m.src == o) = true ∧ (m.dest == v.id) = true ∧ (m.kind == kindS p + 6) = true := by
  unfold cntB at h
  simp only [Bool.and_eq_true, Bool.not_eq_true'] at h
  exact ⟨h.1.1.1.1.2, h.1.1.1.2, h.1.1.2, h.1.2, h.2⟩
theorem fai_yes {v : VW} {p o d : Int} (h1 : v.right = true) (h2 : stabRight p o = true) : faiV v p o d = v.dead d := by simp [faiV, faiB, h1, h2]
set_option maxHeartbeats 8000000 in
theorem garlandlaw14_StabNot : Pure Tryd.prog 6 StabNot_F := by
  refine con TL4_ok rfl rfl fun ⟨v, ⟨p, o⟩, m, d⟩ hq => ⟨rfl, ?_⟩
  obtain ⟨hp, hm⟩ := hq
  simp only at hp hm
  haveI : Fact (phOk p) := ⟨hp⟩
  haveI : Fact (m.call < 9223372036854775808) := ⟨hm⟩
  cases hg : great14 v m with
  | true =>
    simp [cf6, V_av, SW_av, Mg_av, I, -getElem?_pos, hg, cs_length, cs_take, cs_all, cs_lows, mcs_len, mcs_take, mcs_all, mcs_lows]
  | false =>
    obtain ⟨hv, hl⟩ := great_small hg
    haveI : Fact v.small := ⟨hv⟩
    haveI : Fact (tolOk v p m) := ⟨⟨hv, hp, hm, hl⟩⟩
    cases h1 : v.right with
    | false =>
      simp [cf6, V_av, SW_av, Mg_av, I, -getElem?_pos, hg, h1, cs_length, cs_take, cs_all, cs_lows, mcs_len, mcs_take, mcs_all, mcs_lows]
    | true =>
      cases h2 : stabRight p o with
      | false =>
        simp [cf6, V_av, SW_av, Mg_av, I, -getElem?_pos, hg, h1, h2, cs_length, cs_take, cs_all, cs_lows, mcs_len, mcs_take, mcs_all, mcs_lows]
      | true =>
        have hf := fai_yes (d := d) h1 h2
        cases hc : cntB v p o m with
        | true =>
          obtain ⟨k0, k1, k2, k3, k4⟩ := cnt_parts hc
          have c1 := cs_cell2 (tolV v p o m)
          have c2 := cs_cell2 (v.dead d)
          rcases ph_cases hp h2 with rfl | rfl | rfl | rfl
          · cases k0
          all_goals
            simp [kindS] at k4
            cases h4 : o == d
          all_goals
            simp [cf6, V_av, SW_av, Mg_av, I, -getElem?_pos, hg, h1, h2, hf, h4, k1, k2, k3, k4, faiP, faiO, faiZ, faiB, bne, cs_0, mcs_0', mcs_2, mcs_3, cs_length, cs_take, cs_all, cs_lows, cs_drop20, mcs_len, mcs_take, mcs_all, mcs_lows, mcs_if, vcs_if, fillA, eq_stab, VW.same_refl, if_pos c1, if_pos c2, -AV.isCell, isCell_d, isCell_n]
        | false =>
          obtain ⟨e1, e2, e3, e4⟩ := tol_no hc
          have c1 := cs_cell2 v
          have c2 := cs_cell2 (v.dead d)
          clear hc
          rcases ph_cases hp h2 with rfl | rfl | rfl | rfl
          all_goals
            cases h4 : o == d
          all_goals
            simp [cf6, V_av, SW_av, Mg_av, I, -getElem?_pos, hg, h1, h2, hf, h4, e1, e2, e3, e4, al, stepK.lenA, faiP, faiO, faiZ, faiB, bne, cs_0, mcs_0', mcs_2, mcs_3, cs_length, cs_take, cs_all, cs_lows, cs_drop20, mcs_len, mcs_take, mcs_all, mcs_lows, mcs_if, vcs_if, fillA, eq_stab, VW.same_refl, if_pos c1, if_pos c2, -AV.isCell, isCell_d, isCell_n]
          all_goals (try (first | refine WLV_splitN (fun hs => ?_) (fun hs => ?_) | refine WLC_splitN (fun hs => ?_) (fun hs => ?_) | refine WLB_splitN (fun hs => ?_) (fun hs => ?_) | refine WLPV_splitN (fun hs => ?_) (fun hs => ?_) | refine WLPC_splitN (fun hs => ?_) (fun hs => ?_) | refine WLPV_split (fun hs => ?_) (fun hs => ?_) | refine WLPC_split (fun hs => ?_) (fun hs => ?_) | refine WLV_split (fun hs => ?_) (fun hs => ?_) | refine WLC_split (fun hs => ?_) (fun hs => ?_) | refine WLB_split (fun hs => ?_) (fun hs => ?_)))
          all_goals (try (have hs' := hs; simp at hs'))
          all_goals (try simp [*, -getElem?_pos, al, stepK.lenA, bne, cs_0, mcs_0', mcs_2, mcs_3, cs_length, cs_take, cs_all, cs_lows, cs_drop20, mcs_len, mcs_take, mcs_all, mcs_lows, mcs_if, vcs_if, fillA, eq_stab, VW.same_refl, if_pos c1, if_pos c2, faiP, faiO, faiZ, faiB, -AV.isCell, isCell_d, isCell_n])
          all_goals (try (first | refine WLV_splitN (fun hs => ?_) (fun hs => ?_) | refine WLC_splitN (fun hs => ?_) (fun hs => ?_) | refine WLB_splitN (fun hs => ?_) (fun hs => ?_) | refine WLPV_splitN (fun hs => ?_) (fun hs => ?_) | refine WLPC_splitN (fun hs => ?_) (fun hs => ?_) | refine WLPV_split (fun hs => ?_) (fun hs => ?_) | refine WLPC_split (fun hs => ?_) (fun hs => ?_) | refine WLV_split (fun hs => ?_) (fun hs => ?_) | refine WLC_split (fun hs => ?_) (fun hs => ?_) | refine WLB_split (fun hs => ?_) (fun hs => ?_)))
          all_goals (try (have hs' := hs; simp at hs'))
          all_goals (try simp [*, -getElem?_pos, al, stepK.lenA, bne, cs_0, mcs_0', mcs_2, mcs_3, cs_length, cs_take, cs_all, cs_lows, cs_drop20, mcs_len, mcs_take, mcs_all, mcs_lows, mcs_if, vcs_if, fillA, eq_stab, VW.same_refl, if_pos c1, if_pos c2, faiP, faiO, faiZ, faiB, -AV.isCell, isCell_d, isCell_n])
          all_goals (try (first | refine WLV_splitN (fun hs => ?_) (fun hs => ?_) | refine WLC_splitN (fun hs => ?_) (fun hs => ?_) | refine WLB_splitN (fun hs => ?_) (fun hs => ?_) | refine WLPV_splitN (fun hs => ?_) (fun hs => ?_) | refine WLPC_splitN (fun hs => ?_) (fun hs => ?_) | refine WLPV_split (fun hs => ?_) (fun hs => ?_) | refine WLPC_split (fun hs => ?_) (fun hs => ?_) | refine WLV_split (fun hs => ?_) (fun hs => ?_) | refine WLC_split (fun hs => ?_) (fun hs => ?_) | refine WLB_split (fun hs => ?_) (fun hs => ?_)))
          all_goals (try (have hs' := hs; simp at hs'))
          all_goals (try simp [*, -getElem?_pos, al, stepK.lenA, bne, cs_0, mcs_0', mcs_2, mcs_3, cs_length, cs_take, cs_all, cs_lows, cs_drop20, mcs_len, mcs_take, mcs_all, mcs_lows, mcs_if, vcs_if, fillA, eq_stab, VW.same_refl, if_pos c1, if_pos c2, faiP, faiO, faiZ, faiB, -AV.isCell, isCell_d, isCell_n])
          all_goals (try (first | refine WLV_splitN (fun hs => ?_) (fun hs => ?_) | refine WLC_splitN (fun hs => ?_) (fun hs => ?_) | refine WLB_splitN (fun hs => ?_) (fun hs => ?_) | refine WLPV_splitN (fun hs => ?_) (fun hs => ?_) | refine WLPC_splitN (fun hs => ?_) (fun hs => ?_) | refine WLPV_split (fun hs => ?_) (fun hs => ?_) | refine WLPC_split (fun hs => ?_) (fun hs => ?_) | refine WLV_split (fun hs => ?_) (fun hs => ?_) | refine WLC_split (fun hs => ?_) (fun hs => ?_) | refine WLB_split (fun hs => ?_) (fun hs => ?_)))
          all_goals (try (have hs' := hs; simp at hs'))
          all_goals (try simp [*, -getElem?_pos, al, stepK.lenA, bne, cs_0, mcs_0', mcs_2, mcs_3, cs_length, cs_take, cs_all, cs_lows, cs_drop20, mcs_len, mcs_take, mcs_all, mcs_lows, mcs_if, vcs_if, fillA, eq_stab, VW.same_refl, if_pos c1, if_pos c2, faiP, faiO, faiZ, faiB, -AV.isCell, isCell_d, isCell_n])
          all_goals (try (first | refine WLV_splitN (fun hs => ?_) (fun hs => ?_) | refine WLC_splitN (fun hs => ?_) (fun hs => ?_) | refine WLB_splitN (fun hs => ?_) (fun hs => ?_) | refine WLPV_splitN (fun hs => ?_) (fun hs => ?_) | refine WLPC_splitN (fun hs => ?_) (fun hs => ?_) | refine WLPV_split (fun hs => ?_) (fun hs => ?_) | refine WLPC_split (fun hs => ?_) (fun hs => ?_) | refine WLV_split (fun hs => ?_) (fun hs => ?_) | refine WLC_split (fun hs => ?_) (fun hs => ?_) | refine WLB_split (fun hs => ?_) (fun hs => ?_)))
          all_goals (try (have hs' := hs; simp at hs'))
          all_goals (try simp [*, -getElem?_pos, al, stepK.lenA, bne, cs_0, mcs_0', mcs_2, mcs_3, cs_length, cs_take, cs_all, cs_lows, cs_drop20, mcs_len, mcs_take, mcs_all, mcs_lows, mcs_if, vcs_if, fillA, eq_stab, VW.same_refl, if_pos c1, if_pos c2, faiP, faiO, faiZ, faiB, -AV.isCell, isCell_d, isCell_n])
          all_goals (try (first | refine WLV_splitN (fun hs => ?_) (fun hs => ?_) | refine WLC_splitN (fun hs => ?_) (fun hs => ?_) | refine WLB_splitN (fun hs => ?_) (fun hs => ?_) | refine WLPV_splitN (fun hs => ?_) (fun hs => ?_) | refine WLPC_splitN (fun hs => ?_) (fun hs => ?_) | refine WLPV_split (fun hs => ?_) (fun hs => ?_) | refine WLPC_split (fun hs => ?_) (fun hs => ?_) | refine WLV_split (fun hs => ?_) (fun hs => ?_) | refine WLC_split (fun hs => ?_) (fun hs => ?_) | refine WLB_split (fun hs => ?_) (fun hs => ?_)))
          all_goals (try (have hs' := hs; simp at hs'))
          all_goals (try simp [*, -getElem?_pos, al, stepK.lenA, bne, cs_0, mcs_0', mcs_2, mcs_3, cs_length, cs_take, cs_all, cs_lows, cs_drop20, mcs_len, mcs_take, mcs_all, mcs_lows, mcs_if, vcs_if, fillA, eq_stab, VW.same_refl, if_pos c1, if_pos c2, faiP, faiO, faiZ, faiB, -AV.isCell, isCell_d, isCell_n])
noncomputable abbrev garlandlaw14_StabNot_F := StabNot_F
end Go.Proofs.YtfifgiopdbdeoaaDoor.Lite
namespace Go.Proofs.YtfifgiopdbdeoaaDoor.Lite
open Go Go.RowKit

theorem law_calls {f : Nat} {F : List DV → Option (List DV)} (hp : Pure Tryd.prog f F) {W : World} (hgi : GI (Sall W) W) {args : Array Value} {dvs : List DV} (hF : F dvs = some [Bo true]) (hz : args.size = dvs.length)
    (ha : ∀ (j : Nat) d v, dvs[j]? = some d → args[j]? = some v → DVRel (Sall W) W d v) : Calls Tryd.prog f args W (fun e W' => e = .returned (.bool true) ∧ Below W.heap.size W W') := by
  rw [← callsIn_wide (n := 0)]
  refine (hp.calls (Sall W) W args dvs _ hF hz ha (fun b o h => h) hgi).mono ?_
  rintro e W' ⟨v, S', rfl, hk, ho⟩
  refine ⟨?_, hk.os, hk.tape, hk.output, hk.size, hk.blk⟩
  rcases ho with ⟨d, hd, hv⟩ | ⟨hne, _⟩
  · cases hd; cases hv; rfl
  · exact absurd rfl hne

theorem orcOf_const {α : Type} {enc : α → List DV} {ok : α → Prop} {c : List DV} {x : α} (hx : ok x) : orcOf enc ok (fun _ => c) (enc x) = some c := by
  unfold orcOf
  rw [dif_pos ⟨x, hx, rfl⟩]
def RelAll (W : World) (ds : List DV) (vs : List Value) : Prop := ∀ (j : Nat) d v, ds[j]? = some d → vs[j]? = some v → DVRel (Sall W) W d v
theorem rel_nil {W : World} : RelAll W [] [] := fun j d v h => by simp at h
theorem rel_cons {W : World} {d : DV} {v : Value} {ds : List DV} {vs : List Value} (h : DVRel (Sall W) W d v) (hs : RelAll W ds vs) : RelAll W (d :: ds) (v :: vs) := by
  intro j d' v' hd hv
  cases j with
  | zero => simp at hd hv; subst hd hv; exact h
  | succ j => simp at hd hv; exact hs j d' v' hd hv
theorem law_holds {f : Nat} {F : List DV → Option (List DV)} (hp : Pure Tryd.prog f F) {W : World} (hgi : GI (Sall W) W) {vs : List Value} {dvs : List DV} (hF : F dvs = some [Bo true]) (hz : vs.length = dvs.length)
    (ha : RelAll W dvs vs) : Calls Tryd.prog f vs.toArray W (fun e W' => e = .returned (.bool true) ∧ Below W.heap.size W W') :=
  law_calls hp hgi hF (by simpa using hz) fun j d v hd hv => ha j d v hd (by simpa using hv)

def isStruct (P : Program) (t : TypeId) : Bool := match P.underlying t with
  | some (.struct _) => true
  | _ => false
theorem agg_of {P : Program} {w : World} {r : Reach} {base : Nat} {t : TypeId} {v : Value} (ht : isStruct P t = true) (h : Value.okWide P w r base t v) : ∃ cs, v = .agg cs := by
  unfold isStruct at ht
  split at ht
  · rename_i fs hu
    obtain ⟨cs, h1, _⟩ := Go.WideShapes.okWide_struct hu h
    exact ⟨cs, h1⟩
  · cases ht
def isInt (P : Program) (t : TypeId) : Bool := match P.underlying t with
  | some (.int .i64) => true
  | _ => false
def isBool (P : Program) (t : TypeId) : Bool := match P.underlying t with
  | some .bool => true
  | _ => false
def isStr (P : Program) (t : TypeId) : Bool := match P.underlying t with
  | some .string => true
  | _ => false
def isSl (P : Program) (t : TypeId) : Bool := match P.underlying t with
  | some (.slice _) => true
  | _ => false

section
variable {H : Type} {enc : TypeId × Value → H} {P : Program} {w : World} {r : Reach} {base : Nat} {spare : Nat → Bool} {held : Bool} {t : TypeId} {v : Value} {d : DataW H} {ps : List MemPlace}
theorem open_I (ht : isInt P t = true) (hv : Value.okWide P w r base t v) (h : DataW.Trod enc P w 0 spare held t v d ps) : ∃ n, DVRel (Sall w) w (I n) v ∧ (Lit.int .i64 n).wf = true := by
  unfold isInt at ht
  split at ht
  · rename_i hu
    obtain ⟨n, rfl⟩ := Go.WideShapes.okWide_int hu hv
    obtain ⟨fuel, h⟩ := h
    obtain ⟨m, h1, _, h2⟩ := DataW.trod_int hu h
    simp [Value.cells] at h1
    subst h1
    exact ⟨n, .int _ _, h2⟩
  · cases ht
theorem open_B (ht : isBool P t = true) (hv : Value.okWide P w r base t v) : ∃ b, DVRel (Sall w) w (Bo b) v := by
  unfold isBool at ht
  split at ht
  · rename_i hu
    obtain ⟨n, rfl⟩ := Go.WideShapes.okWide_bool hu hv
    exact ⟨n, .bool _⟩
  · cases ht
theorem open_str (ht : isStr P t = true) (hv : Value.okWide P w r base t v) : ∃ s : List UInt8, DVRel (Sall w) w (.s (.str s)) v := by
  unfold isStr at ht
  split at ht
  · rename_i hu
    obtain ⟨n, rfl⟩ := Go.WideShapes.okWide_string hu hv
    exact ⟨n.data.toList, .str _⟩
  · cases ht
theorem open_agg {ts : List DTy} {m : Nat} (ht : isStruct P t = true) (hf : flatTy P m t = some ts) (hv : Value.okWide P w r base t v) (h : DataW.Trod enc P w 0 spare held t v d ps) : ∃ ds, DVRel (Sall w) w (.g ds) v ∧ ∃ vs, Op w ts ds vs := by
  obtain ⟨arr, rfl⟩ := agg_of ht hv
  obtain ⟨fuel, h⟩ := h
  obtain ⟨ds, hd⟩ := trod_op fuel m t _ _ ts h hf
  refine ⟨ds, ⟨arr, rfl, ?_, fun j x u hx hu => hd.get j x u hx (by simpa [Value.cells] using hu)⟩, _, hd⟩
  have := hd.len
  simp [Value.cells] at this
  omega
theorem open_sl {ts : List DTy} {m : Nat} (ht : isSl P t = true) (hf : flatTy P m t = some [.sl ts]) (hv : Value.okWide P w r base t v) (h : DataW.Trod enc P w 0 spare held t v d ps) : ∃ rows, DVRel (Sall w) w (.s (.sl rows)) v ∧ Ty (.sl ts) (.sl rows) := by
  unfold isSl at ht
  split at ht
  · rename_i hu
    obtain ⟨a, len, cap, rfl⟩ := Go.WideShapes.okWide_slice hu hv
    obtain ⟨fuel, h⟩ := h
    obtain ⟨ds, hd⟩ := trod_op fuel m t _ _ _ h hf
    simp [Value.cells] at hd
    cases hd with
    | cons h1 h2 h3 =>
      cases h1 with
      | sl _ rows hl h1 h2' => exact ⟨rows, h2, .sl _ rows hl h1 h2'⟩
  · cases ht
end

abbrev tI : DTy := .int .i64
abbrev tIs : DTy := .sl [.int .i64]
theorem ints_ty {rows : List (List Dat)} (h : Ty tIs (.sl rows)) : ∃ l : List Int, rows = rowsI l ∧ l.length < 9223372036854775808 := by
  cases h with
  | sl _ _ hl h1 h2 =>
    have key : ∀ rs : List (List Dat), (∀ row ∈ rs, row.length = 1) → (∀ row ∈ rs, ∀ (j : Nat) t d, [DTy.int .i64][j]? = some t → row[j]? = some d → Ty t d) → ∃ l : List Int, rs = rowsI l := by
      intro rs
      induction rs with
      | nil => intro _ _; exact ⟨[], rfl⟩
      | cons a rs ih =>
        intro g1 g2
        obtain ⟨l, rfl⟩ := ih (fun row hr => g1 row (by simp [hr])) (fun row hr => g2 row (by simp [hr]))
        have ha := g1 a (by simp)
        match a, ha with
        | [x], _ =>
          have := g2 [x] (by simp) 0 _ x rfl rfl
          cases this with
          | int k n hw => exact ⟨n :: l, rfl⟩
    obtain ⟨l, rfl⟩ := key rows h1 h2
    refine ⟨l, rfl, ?_⟩
    unfold rowsI maxLen at hl
    rw [List.length_map] at hl
    omega
inductive TyL : List DTy → List Dat → Prop
  | nil : TyL [] []
  | cons {t d ts ds} (h1 : Ty t d) (h : TyL ts ds) : TyL (t :: ts) (d :: ds)
theorem Op.tyL {w : World} {ts : List DTy} {ds : List Dat} {vs : List Value} (h : Op w ts ds vs) : TyL ts ds := by
  induction h with
  | nil => exact .nil
  | cons h1 _ _ ih => exact .cons h1 ih
theorem tyL_of : ∀ {ts : List DTy} {ds : List Dat}, ds.length = ts.length → (∀ (j : Nat) t d, ts[j]? = some t → ds[j]? = some d → Ty t d) → TyL ts ds
  | [], [], _, _ => .nil
  | t :: ts, d :: ds, hl, h => .cons (h 0 t d rfl rfl) (tyL_of (by simpa using hl) fun j t' d' ht hd => h (j + 1) t' d' (by simpa using ht) (by simpa using hd))
theorem op_ints : ∀ (n : Nat) {ds : List Dat}, TyL (List.replicate n tI) ds → ∃ l : List Int, l.length = n ∧ ds = l.map (.int .i64)
  | 0, ds, h => by cases h; exact ⟨[], rfl, rfl⟩
  | n + 1, ds, h => by
    rw [List.replicate_succ] at h
    cases h with
    | cons h1 h =>
      obtain ⟨l, h3, rfl⟩ := op_ints n h
      cases h1 with
      | int k m hw => exact ⟨m :: l, by simp [h3], rfl⟩
def viewTy : List DTy := [tI, tIs, tIs, tI] ++ List.replicate 16 tI
theorem op_view {ds : List Dat} (h : TyL viewTy ds) : ∃ x : VW, ds = x.dats := by
  unfold viewTy at h
  cases h with
  | cons h1 h =>
    cases h with
    | cons h2 h =>
      cases h with
      | cons h3 h =>
        cases h with
        | cons h4 h =>
          obtain ⟨fin, hf, rfl⟩ := op_ints 16 h
          cases h1; cases h4
          cases h2 with
          | sl _ rows ha hb hc =>
            obtain ⟨base, rfl, hbl⟩ := ints_ty (.sl _ rows ha hb hc)
            cases h3 with
            | sl _ rows ha hb hc =>
              obtain ⟨lst, rfl, hll⟩ := ints_ty (.sl _ rows ha hb hc)
              exact ⟨⟨_, base, lst, _, fin, hf, hbl, hll⟩, rfl⟩
def msgTy : List DTy := [.int .u8, tI, tI, tI, tI, .bool, .bool, tI, tI, tIs, .str, tI, tI, .bool, tI]
theorem op_msg {ds : List Dat} (h : TyL msgTy ds) : ∃ x : MW, ds = x.dats ∧ x.call < 9223372036854775808 := by
  unfold msgTy at h
  obtain _ | ⟨h1, h⟩ := h
  obtain _ | ⟨h2, h⟩ := h
  obtain _ | ⟨h3, h⟩ := h
  obtain _ | ⟨h4, h⟩ := h
  obtain _ | ⟨h5, h⟩ := h
  obtain _ | ⟨h6, h⟩ := h
  obtain _ | ⟨h7, h⟩ := h
  obtain _ | ⟨h8, h⟩ := h
  obtain _ | ⟨h9, h⟩ := h
  obtain _ | ⟨h10, h⟩ := h
  obtain _ | ⟨h11, h⟩ := h
  obtain _ | ⟨h12, h⟩ := h
  obtain _ | ⟨h13, h⟩ := h
  obtain _ | ⟨h14, h⟩ := h
  obtain _ | ⟨h15, h⟩ := h
  cases h
  have hc : ∀ d, Ty tI d → ∃ n, d = .int .i64 n ∧ n < 9223372036854775808 := fun d hd => by cases hd with | int k n hw => exact ⟨n, rfl, by have := bounds_i64 hw; omega⟩
  obtain ⟨c, rfl, hcc⟩ := hc _ h2
  cases h1; cases h3; cases h4; cases h5; cases h6; cases h7; cases h8; cases h9; cases h11; cases h12; cases h13; cases h14; cases h15
  cases h10 with
  | sl _ rows ha hb hc =>
    obtain ⟨lst, rfl, hll⟩ := ints_ty (.sl _ rows ha hb hc)
    exact ⟨⟨_, c, _, _, _, _, _, _, _, lst, _, _, _, _, _, hll⟩, rfl, hcc⟩
def stabTy : List DTy := [.int .u8, tI]
theorem ph_ty {n : Int} (h : (Lit.int .u8 n).wf = true) : phOk n := by
  have := bounds_u8 h
  constructor <;> omega
theorem op_stab {ds : List Dat} (h : TyL stabTy ds) : ∃ s : Int × Int, ds = [.int .u8 s.1, .int .i64 s.2] ∧ phOk s.1 := by
  unfold stabTy at h
  obtain _ | ⟨h1, h⟩ := h
  obtain _ | ⟨h2, h⟩ := h
  cases h
  cases h1 with
  | int k n hw =>
    cases h2
    exact ⟨(n, _), rfl, ph_ty hw⟩
section
variable {H : Type} {enc : TypeId × Value → H} {P : Program} {w : World} {r : Reach} {base : Nat} {spare : Nat → Bool} {held : Bool} {t : TypeId} {v : Value} {d : DataW H} {ps : List MemPlace}
theorem open_W {m : Nat} (ht : isStruct P t = true) (hf : flatTy P m t = some stabTy) (hv : Value.okWide P w r base t v) (h : DataW.Trod enc P w 0 spare held t v d ps) : ∃ s : Int × Int, DVRel (Sall w) w (SW s.1 s.2) v ∧ phOk s.1 := by
  obtain ⟨ds, h1, vs, h2⟩ := open_agg ht hf hv h
  obtain ⟨x, rfl, hx⟩ := op_stab h2.tyL
  exact ⟨x, h1, hx⟩
theorem open_L {m : Nat} (ht : isSl P t = true) (hf : flatTy P m t = some [tIs]) (hv : Value.okWide P w r base t v) (h : DataW.Trod enc P w 0 spare held t v d ps) : ∃ l : List Int, DVRel (Sall w) w (SI l) v ∧ l.length < 9223372036854775808 := by
  obtain ⟨rows, h1, h2⟩ := open_sl ht hf hv h
  obtain ⟨l, rfl, hl⟩ := ints_ty h2
  exact ⟨l, h1, hl⟩
theorem open_V {m : Nat} (ht : isStruct P t = true) (hf : flatTy P m t = some viewTy) (hv : Value.okWide P w r base t v) (h : DataW.Trod enc P w 0 spare held t v d ps) : ∃ x : VW, DVRel (Sall w) w (V x) v := by
  obtain ⟨ds, h1, vs, h2⟩ := open_agg ht hf hv h
  obtain ⟨x, rfl⟩ := op_view h2.tyL
  exact ⟨x, h1⟩
theorem open_M {m : Nat} (ht : isStruct P t = true) (hf : flatTy P m t = some msgTy) (hv : Value.okWide P w r base t v) (h : DataW.Trod enc P w 0 spare held t v d ps) : ∃ x : MW, DVRel (Sall w) w (Mg x) v ∧ x.call < 9223372036854775808 := by
  obtain ⟨ds, h1, vs, h2⟩ := open_agg ht hf hv h
  obtain ⟨x, rfl, hc⟩ := op_msg h2.tyL
  exact ⟨x, h1, hc⟩
end

/-! ### the package variable that the rows list -/
abbrev laid1 : List (String × DataW Unit) := [("garland/stab.phases", Rows.laid_garland_stab_phases)]
theorem gPh : Tryd.prog.globalNamed "garland/stab.phases" = some 0 := by kernel_rfl
theorem tPh : (Tryd.prog.globals[0]?).map (·.type) = some 81 := by kernel_rfl
theorem u81 : Tryd.prog.underlying 81 = some (.array 4 80) := by kernel_rfl
theorem c81 : Tryd.prog.cellsOf 80 = 2 := by kernel_rfl
theorem phase_cells {w : World} {spare : Nat → Bool} {held : Bool} {m : Nat} {a b : Value} {x y : Int} {ps : List MemPlace} (h : DataW.trod (fun _ => ()) Tryd.prog w 0 spare held m 80 [a, b] = some (.agg [.lit (.int .u8 x), .lit (.int .u8 y)], ps)) : a = .int .u8 x ∧ b = .int .u8 y := by
  obtain ⟨y0, y1, n, e, hl, h0, h1⟩ := Go.ChangeShapes.trod_struct2 Tryd.underlying80 h
  have c5 : Tryd.prog.cellsOf 5 = 1 := by kernel_rfl
  obtain ⟨n0, g0, rfl, _⟩ := DataW.trod_int (k := .u8) Tryd.underlying5 h0
  obtain ⟨n1, g1, rfl, _⟩ := DataW.trod_int (k := .u8) Tryd.underlying5 h1
  simp [c5] at g0 g1 e
  subst g0; subst g1
  obtain ⟨⟨rfl, rfl⟩, _⟩ := e
  exact ⟨rfl, rfl⟩
theorem list8 {α : Type} {l : List α} (h : l.length = 8) : ∃ a0 a1 a2 a3 a4 a5 a6 a7, l = [a0, a1, a2, a3, a4, a5, a6, a7] := by
  match l, h with
  | [a0, a1, a2, a3, a4, a5, a6, a7], _ => exact ⟨_, _, _, _, _, _, _, _, rfl⟩
theorem list4 {α : Type} {l : List α} (h : l.length = 4) : ∃ a0 a1 a2 a3, l = [a0, a1, a2, a3] := by
  match l, h with
  | [a0, a1, a2, a3], _ => exact ⟨_, _, _, _, rfl⟩
theorem gi_of_laid {W : World} (h : laidMetH Tryd.prog laid1 W) : GI (Sall W) W := by
  rw [MakeChecks.laidMetH_plain _ _ _ (by kernel_rfl)] at h
  obtain ⟨ps, ⟨g0, t0, cs0, f0, p0, q0, hg0, ht0, hv0, hd0, _, _⟩, _, _⟩ := h
  obtain rfl := Option.some.inj (gPh.symm.trans hg0)
  obtain rfl := Option.some.inj (tPh.symm.trans ht0)
  obtain ⟨xs, m1, rfl, hx1, hlen, hn4, hel⟩ := DataW.trod_array u81 hd0
  have c8 : Tryd.prog.cellsOf 81 = 8 := by kernel_rfl
  have hcell := fun i => World.var?_cell hg0 hv0 i
  obtain ⟨l⟩ := cs0
  rw [c8] at hlen
  obtain ⟨x0, x1, x2, x3, rfl⟩ := list4 hn4
  obtain ⟨a0, a1, a2, a3, a4, a5, a6, a7, rfl⟩ := list8 hlen
  have k0 := hel 0 (by decide)
  have k1 := hel 1 (by decide)
  have k2 := hel 2 (by decide)
  have k3 := hel 3 (by decide)
  obtain ⟨d0, p0⟩ := x0
  obtain ⟨d1, p1⟩ := x1
  obtain ⟨d2, p2⟩ := x2
  obtain ⟨d3, p3⟩ := x3
  simp only [Prod.mk.injEq, Rows.laid_garland_stab_phases, DataW.agg.injEq, List.map_cons, List.map_nil, List.cons.injEq, and_true] at hx1
  obtain ⟨⟨rfl, rfl, rfl, rfl⟩, _⟩ := hx1
  simp [c81] at k0 k1 k2 k3
  obtain ⟨rfl, rfl⟩ := phase_cells k0
  obtain ⟨rfl, rfl⟩ := phase_cells k1
  obtain ⟨rfl, rfl⟩ := phase_cells k2
  obtain ⟨rfl, rfl⟩ := phase_cells k3
  intro g cells hg j x hx
  simp only [GLOB, List.mem_singleton, Prod.mk.injEq] at hg
  obtain ⟨rfl, rfl⟩ := hg
  have hj : j < 8 := (List.getElem?_eq_some_iff.1 hx).1
  have : ∃ n, x = .int .u8 n ∧ W.cell? ⟨0, j, none⟩ = some (.int .u8 n) := by
    rw [hcell j]
    match j, hj with
    | 0, _ => cases hx; exact ⟨_, rfl, rfl⟩
    | 1, _ => cases hx; exact ⟨_, rfl, rfl⟩
    | 2, _ => cases hx; exact ⟨_, rfl, rfl⟩
    | 3, _ => cases hx; exact ⟨_, rfl, rfl⟩
    | 4, _ => cases hx; exact ⟨_, rfl, rfl⟩
    | 5, _ => cases hx; exact ⟨_, rfl, rfl⟩
    | 6, _ => cases hx; exact ⟨_, rfl, rfl⟩
    | 7, _ => cases hx; exact ⟨_, rfl, rfl⟩
  obtain ⟨n, rfl, hc⟩ := this
  exact ⟨⟨_, hc⟩, _, hc, .int _ _⟩
set_option maxRecDepth 100000 in
theorem door_met (os : Os) (args : Array Value) : laidMetH Tryd.prog laid1 ((World.doorLaid Tryd.prog 400 os).forCall (fun _ _ => 0) ⟨#[], args, []⟩).memory :=
  laidMetH_of_parts3 (fuel := 8) (laidMet_of_run' 8 (by kernel_rfl) (by kernel_rfl)) (by kernel_rfl) (by kernel_rfl)
theorem own : ownKnob Tryd.prog.godebug = none := by kernel_rfl
theorem laidOut : laidOutB Tryd.prog = true := by kernel_rfl
theorem back {H : Type} {enc : TypeId × Value → H} {t : TypeId} (hr : Tryd.prog.readableRec t = true) (hrow : t < Tryd.prog.types.size) {W W' : World} {v : Value} {d : DataW H} {ps : List MemPlace}
    (h : DataW.Trod enc Tryd.prog W 0 (fun _ => true) true t v d ps) (hb : Below W.heap.size W W') : DataW.Trod enc Tryd.prog W' 0 (fun b => decide (b < W.heap.size)) true t v d ps :=
  Below.trod laidOut hr hrow h hb (by obtain ⟨m, hm⟩ := h; exact DataW.trod_lt m _ _ _ hm)
end Go.Proofs.YtfifgiopdbdeoaaDoor.Lite
namespace Go.Proofs.YtfifgiopdbdeoaaDoor.Lite
open Go
attribute [local simp] WL_of WL_nil WL_blk WL_skip WL_label WL_exit WL_goto WL_seq WL_block WL_cond WL_reg WL_ret WJ_nil WJ_ex WJ_gt WJ_rt WJ_exb WJ_gtb WJ_rtb WLO_nil WLO_call WO_nw stepN WO_mv WO_pick WO_new WO_box WO_ld WO_ldn WO_st WO_off WO_ixa WO_ixs WO_fld WO_fldn WO_ixv WO_ixvn WO_ixb WO_bin WO_eqb WO_isn WO_eqs WO_not WO_conv WO_mkf WO_bld WO_bls WO_sla WO_sls WO_sl0 WO_len WO_app WO_mnx WO_ext WO_nilc wants_none wants_some wantv_b wantv_t WLV_true WLV_false WLC_false WLB_true WLB_false evX_t evX_c evXs_nil evXs_cons look_put look_putN look_cons look_arg0 look_arg stepK binOpA intOp strOp evRes oneOf outs gc toDV AV.dat? I Bo av_s List.map List.append_nil getO putO AV.cellsOf bne WL_dreg WLP_nil WLP_call WP_mv WP_pick WP_new WP_box WP_ld WP_ldn WP_off WP_ixa WP_ixs WP_fld WP_fldn WP_ixv WP_ixvn WP_ixb WP_bin WP_eqb WP_isn WP_eqs WP_not WP_conv WP_mkf WP_bld WP_bls WP_sla WP_sls WP_sl0 WP_len WP_app WP_mnx WP_ext WP_nilc WLPV_true WLPV_false WLPC_false WLC_tells WLPC_tells padH onNm onEx List.getElem?_cons_zero List.getElem?_cons_succ List.getElem?_nil restrict AV.lows lay AV.isCell lowObj AObj.lows WJ_nm AV.lows.go WL_scope onGt_rt onGt_nm onGt_ex WL_sreg WP_st preSt eraseB List.set_cons_zero List.set_cons_succ frz cutR cutAs cutA WL_sregT cutB cutBs

def tellC (d : Int) : Int := IntKind.i64.wrap (IntKind.i64.wrap (d * 1048576) + 1)
def tellS (s d p : Int) (l : List Int) (h : l.length < 9223372036854775808) : MW := ⟨7, tellC d, s, d, 0, false, false, 0, p, l, [], 0, 0, false, 0, h⟩
theorem wrap_lt (n : Int) : IntKind.i64.wrap n < 9223372036854775808 := by rw [wrap64]; split <;> omega
noncomputable def tell14_F := orcOf (fun q : (Int × Int × Int) × { l : List Int // l.length < 9223372036854775808 } => [I q.1.1, I q.1.2.1, I q.1.2.2, SI q.2.1]) (fun _ => True) (fun q => [Mg (tellS q.1.1 q.1.2.1 q.1.2.2 q.2.1 q.2.2)])
instance (s d p : Int) (l : List Int) [h : Fact (l.length < 9223372036854775808)] : Tells tell14_F [.d (.int .i64 s), .d (.int .i64 d), .d (.int .i64 p), .d (.sl (rowsI l))] (.agg (tellS s d p l h.out).cs) :=
  ⟨[I s, I d, I p, SI l], [Mg (tellS s d p l h.out)], fun _ => rfl, orcOf_eq (enc := fun q : (Int × Int × Int) × { l : List Int // l.length < 9223372036854775808 } => [I q.1.1, I q.1.2.1, I q.1.2.2, SI q.2.1]) (x := ((s, d, p), ⟨l, h.out⟩)) trivial (fun y h => by
    obtain ⟨⟨a, b, c⟩, ⟨k, hk⟩⟩ := y
    simp only [I, SI, List.cons.injEq, DV.s.injEq, Dat.int.injEq, Dat.sl.injEq, true_and, and_true] at h
    obtain ⟨rfl, rfl, rfl, h4⟩ := h
    have := rowsI_inj h4; subst this
    rfl), rfl, rfl, fun _ _ => rfl⟩
theorem garlandlaw14_tell : Pure Tryd.prog 24 tell14_F := by
  refine con (T := tbl []) (tbl_ok (by simp)) rfl rfl fun ⟨⟨s, d, p⟩, ⟨l, hl⟩⟩ _ => ⟨rfl, ?_⟩
  simp [cf24, I, SI, -getElem?_pos, fillA]
  exact ⟨_, rfl, rfl⟩
noncomputable abbrev garlandlaw14_tell_F := tell14_F

/-! ### plain -/
theorem right_small {v : VW} (h : v.right = true) : v.base.length ≤ 4 ∧ v.lst.length ≤ 3 := ⟨(VW.r h).b4, (VW.r h).l3⟩
theorem mright_parts {m : MW} (h : m.right = true) : isPlace m.src = true ∧ isPlace m.dest = true ∧ m.src ≠ m.dest := by
  unfold MW.right MW.guard at h
  simp only [Bool.and_eq_true, Bool.not_eq_true', beq_eq_false_iff_ne] at h
  exact ⟨h.1.1.1.1.1.2, h.1.1.1.1.2, h.1.1.1.2⟩
theorem stab_yes {p o : Int} (hp : p = 1 ∨ p = 2 ∨ p = 3) (ho : isPlace o = true) : stabRight p o = true := by
  rcases hp with rfl | rfl | rfl <;> simp [stabRight, ho]
theorem cnt_tell {v : VW} (hv : v.right = true) {p o : Int} (hp : p = 1 ∨ p = 2) {m : MW} (hm : m.right = true) (hk : m.kind = 7) (hs : m.src = o) (hd : m.dest = v.id) : cntB v p o m = true := by
  have ho : isPlace o = true := by rw [← hs]; exact (mright_parts hm).1
  have h2 := stab_yes (p := p) (by omega) ho
  unfold cntB
  rcases hp with rfl | rfl <;> simp [hv, h2, hm, hs, hd, hk, kindS]
structure StepI (v w : VW) (o : Int) : Prop where
  r : w.right = true
  id : w.id = v.id
  base : w.base = v.base
  l0 : w.lst[0]? = some o
  first : w.first = o
theorem step_newV {v : VW} (hv : v.right = true) {m : MW} (hm : m.right = true) (hd : m.dest = v.id) : StepI v (newV v m) m.src := by
  obtain ⟨h1, h2, h3⟩ := mright_parts hm
  have hw : (newV v m).right = true := withL_right hv (makeL_right _ _ _)
  have hl : (newV v m).lst = m.src :: mkL v.id m.src 2 m.lst := makeL_cons (id_place hv) h1 (by rw [← hd]; exact h3) _
  exact ⟨hw, rfl, rfl, by rw [hl]; rfl, by simp only [VW.first, hl, hw, cond_true]⟩
theorem skips_newV {v : VW} (hv : v.right = true) {m : MW} (hm : m.right = true) (hd : m.dest = v.id) (hno : ∀ b ∈ v.base, inB v.id b m.src = false) (hl : skipsL m.src m.lst v.base = false) : skipsL (newV v m).id (newV v m).lst (newV v m).base = false := by
  obtain ⟨h1, h2, h3⟩ := mright_parts hm
  exact make_skips hv h1 (by rw [← hd]; exact h3) hno hl
theorem no_ahead {v : VW} {f p : Int} (hno : ∀ b ∈ v.base, inB v.id b f = false) (hp : inB v.id p f = true) : ∀ b ∈ v.base, inB v.id b p = false := by
  intro b hb
  cases h : inB v.id b p with
  | false => rfl
  | true => rw [← hno b hb, in_trans hp h]
end Go.Proofs.YtfifgiopdbdeoaaDoor.Lite
namespace Go.Proofs.YtfifgiopdbdeoaaDoor.Lite
open Go
attribute [local simp] WL_of WL_nil WL_blk WL_skip WL_label WL_exit WL_goto WL_seq WL_block WL_cond WL_reg WL_ret WJ_nil WJ_ex WJ_gt WJ_rt WJ_exb WJ_gtb WJ_rtb WLO_nil WLO_call WO_nw stepN WO_mv WO_pick WO_new WO_box WO_ld WO_ldn WO_st WO_off WO_ixa WO_ixs WO_fld WO_fldn WO_ixv WO_ixvn WO_ixb WO_bin WO_eqb WO_isn WO_eqs WO_not WO_conv WO_mkf WO_bld WO_bls WO_sla WO_sls WO_sl0 WO_len WO_app WO_mnx WO_ext WO_nilc wants_none wants_some wantv_b wantv_t WLV_true WLV_false WLC_false WLB_true WLB_false evX_t evX_c evXs_nil evXs_cons look_put look_putN look_cons look_arg0 look_arg stepK binOpA intOp strOp evRes oneOf outs gc toDV AV.dat? I Bo av_s List.map List.append_nil getO putO AV.cellsOf bne WL_dreg WLP_nil WLP_call WP_mv WP_pick WP_new WP_box WP_ld WP_ldn WP_off WP_ixa WP_ixs WP_fld WP_fldn WP_ixv WP_ixvn WP_ixb WP_bin WP_eqb WP_isn WP_eqs WP_not WP_conv WP_mkf WP_bld WP_bls WP_sla WP_sls WP_sl0 WP_len WP_app WP_mnx WP_ext WP_nilc WLPV_true WLPV_false WLPC_false WLC_tells WLPC_tells padH onNm onEx List.getElem?_cons_zero List.getElem?_cons_succ List.getElem?_nil restrict AV.lows lay AV.isCell lowObj AObj.lows WJ_nm AV.lows.go WL_scope onGt_rt onGt_nm onGt_ex WL_sreg WP_st preSt eraseB List.set_cons_zero List.set_cons_succ frz cutR cutAs cutA WL_sregT cutB cutBs

noncomputable def TL2 : Tbl := tbl [(9, garlandlaw14_wakes_F), (22, garlandref13_Right_F), (23, garlandref12_Skips_F), (10, stab_Begin_F), (24, garlandlaw14_tell_F), (25, garlandref06_Right_F), (26, garlandref12_Right_F), (13, stab_Told_F), (27, garlandref03_In_F)]
theorem TL2_ok : TblOK Tryd.prog TL2 := tbl_ok (by
  simp only [List.mem_cons, List.not_mem_nil, or_false]
  rintro p (rfl | rfl | rfl | rfl | rfl | rfl | rfl | rfl | rfl)
  · exact garlandlaw14_wakes
  · exact garlandref13_Right
  · exact garlandref12_Skips
  · exact stab_Begin
  · exact garlandlaw14_tell
  · exact garlandref06_Right
  · exact garlandref12_Right
  · exact stab_Told
  · exact garlandref03_In)
instance : Has TL2 9 garlandlaw14_wakes_F := ⟨rfl⟩
instance : Has TL2 22 garlandref13_Right_F := ⟨rfl⟩
instance : Has TL2 23 garlandref12_Skips_F := ⟨rfl⟩
instance : Has TL2 10 stab_Begin_F := ⟨rfl⟩
instance : Has TL2 24 garlandlaw14_tell_F := ⟨rfl⟩
instance : Has TL2 25 garlandref06_Right_F := ⟨rfl⟩
instance : Has TL2 26 garlandref12_Right_F := ⟨rfl⟩
instance : Has TL2 13 stab_Told_F := ⟨rfl⟩
instance : Has TL2 27 garlandref03_In_F := ⟨rfl⟩

noncomputable def StabSkips_F := orcOf (fun q : VW × Int × List Int × List Int => [V q.1, I q.2.1, SI q.2.2.1, SI q.2.2.2]) (fun q => q.2.2.1.length < 9223372036854775808 ∧ q.2.2.2.length < 9223372036854775808) (fun _ => [Bo true])
theorem mcsC2 (m : MW) : ∀ (x : AV), x ∈ m.cs → AV.isCell x = true := fun x hx => List.all_eq_true.1 (show m.cs.all AV.isCell = true from rfl) x hx
theorem al_one (k t w : Int) : al (some (k, t, w)) = [askRow k t w] := rfl
set_option maxRecDepth 100000 in
set_option maxHeartbeats 16000000 in
theorem garlandlaw14_StabSkips : Pure Tryd.prog 4 StabSkips_F := by
  refine con TL2_ok rfl rfl fun ⟨v, pred, l, l2⟩ hq => ⟨rfl, ?_⟩
  obtain ⟨hl, hl2⟩ := hq
  simp only at hl hl2
  haveI : Fact (l.length < 9223372036854775808) := ⟨hl⟩
  haveI : Fact (l2.length < 9223372036854775808) := ⟨hl2⟩
  cases h1 : v.right with
  | false => simp [cf4, V_av, I, SI, -getElem?_pos, h1, cs_length, cs_take, cs_all, cs_lows]
  | true =>
    obtain ⟨hb4, hl3⟩ := right_small h1
    haveI : Fact (v.lst.length < 9223372036854775807) := ⟨by omega⟩
    haveI : Fact (v.base.length < 9223372036854775807) := ⟨by omega⟩
    cases h2 : skipsL v.id v.lst v.base with
    | true => simp [cf4, V_av, I, SI, -getElem?_pos, h1, h2, cs_0, cs_1, cs_2, cs_length, cs_take, cs_all, cs_lows]
    | false =>
      by_cases h3 : (6 : Int) < (l.length : Int)
      · simp [cf4, V_av, I, SI, -getElem?_pos, h1, h2, h3, cs_0, cs_1, cs_2, cs_length, cs_take, cs_all, cs_lows, stepK.lenA, rowsI_length]
      · by_cases h4 : (6 : Int) < (l2.length : Int)
        · simp [cf4, V_av, I, SI, -getElem?_pos, h1, h2, h3, h4, cs_0, cs_1, cs_2, cs_length, cs_take, cs_all, cs_lows, stepK.lenA, rowsI_length]
        · haveI : Fact (l.length < 9223372036854775807) := ⟨by omega⟩
          haveI : Fact (l2.length < 9223372036854775807) := ⟨by omega⟩
          haveI : Fact (phOk 0) := ⟨by constructor <;> omega⟩
          have hv : v.small := ⟨by omega, by omega⟩
          have hne : (v.first == v.id) = false := by rw [beq_eq_false_iff_ne]; exact first_ne h1
          have hno := no_first h1 h2
          have hbB : begB v 0 0 = true := by simp [begB, h1]
          have b1 : begP v 0 0 = 1 := by simp [begP, hbB]
          have b2 : begO v 0 0 = v.first := by simp [begO, hbB]
          have b3 : begA v 0 0 = some (1, v.first, 1) := by simp [begA, hbB]
          generalize hmm : tellS v.first v.id pred l hl = m
          have hm7 : m.kind = 7 := by rw [← hmm]; rfl
          have hms : m.src = v.first := by rw [← hmm]; rfl
          have hmd : m.dest = v.id := by rw [← hmm]; rfl
          have hml : m.lst = l := by rw [← hmm]; rfl
          have hmp : m.pred = pred := by rw [← hmm]; rfl
          have hmc : m.call < 9223372036854775808 := by rw [← hmm]; exact wrap_lt _
          haveI : Fact (m.call < 9223372036854775808) := ⟨hmc⟩
          haveI : Fact (phOk 1) := ⟨by constructor <;> omega⟩
          haveI : Fact (tolOk v 1 m) := ⟨⟨hv, by constructor <;> omega, hmc, by rw [hml]; omega⟩⟩
          cases h5 : m.right with
          | false =>
            simp [cf4, V_av, I, SI, -getElem?_pos, h1, h2, h3, h4, hne, b1, b2, b3, hmm, al_one, askRow, h5, cs_0, cs_1, cs_2, cs_length, cs_take, cs_all, cs_lows, cs_drop20, mcs_len, mcs_take, mcs_all, mcs_lows, stepK.lenA, rowsI_length, rowsI_get, fillA, eq_stab, if_pos (mcsC2 m), -AV.isCell, isCell_d, isCell_n]
          | true =>
            cases h6 : listRight v.first l with
            | false =>
              simp [cf4, V_av, I, SI, -getElem?_pos, h1, h2, h3, h4, hne, b1, b2, b3, hmm, al_one, askRow, h5, h6, cs_0, cs_1, cs_2, cs_length, cs_take, cs_all, cs_lows, cs_drop20, mcs_len, mcs_take, mcs_all, mcs_lows, stepK.lenA, rowsI_length, rowsI_get, fillA, eq_stab, if_pos (mcsC2 m), -AV.isCell, isCell_d, isCell_n]
            | true =>
              cases h7 : skipsL v.first l v.base with
              | true =>
                simp [cf4, V_av, I, SI, -getElem?_pos, h1, h2, h3, h4, hne, b1, b2, b3, hmm, al_one, askRow, h5, h6, h7, cs_0, cs_1, cs_2, cs_length, cs_take, cs_all, cs_lows, cs_drop20, mcs_len, mcs_take, mcs_all, mcs_lows, stepK.lenA, rowsI_length, rowsI_get, fillA, eq_stab, if_pos (mcsC2 m), -AV.isCell, isCell_d, isCell_n]
              | false =>
                have hc : cntB v 1 v.first m = true := cnt_tell h1 (.inl rfl) h5 hm7 hms hmd
                have hw := step_newV h1 h5 hmd
                have hsk := skips_newV h1 h5 hmd (by rw [hms]; exact hno) (by rw [hms, hml]; exact h7)
                rw [hms] at hw
                rw [hw.id] at hsk
                have e1 : tolV v 1 v.first m = newV v m := by simp [tolV, hc]
                generalize newV v m = w at hw hsk e1
                have hwi := hw.id
                have hwb := hw.base
                have hw0 := hw.l0
                have hwr := hw.r
                have hwf := hw.first
                have hw1 : 0 < w.lst.length := (List.getElem?_eq_some_iff.1 hw0).1
                have hw1' : ¬ ((w.lst.length : Int) < 1) := by omega
                obtain ⟨hwb4, hwl3⟩ := right_small hwr
                haveI : Fact (w.lst.length < 9223372036854775807) := ⟨by omega⟩
                haveI : Fact (w.base.length < 9223372036854775807) := ⟨by omega⟩
                have hws : w.small := ⟨by omega, by omega⟩
                cases h8 : ahead v 1 m with
                | false =>
                  have e2 : tolP v 1 v.first m = 3 := by simp [tolP, hc, h8]
                  have e3 : tolO v 1 v.first m = v.first := by
                    have : newV v m = w := by rw [← e1]; simp [tolV, hc]
                    simp [tolO, hc, h8, this, hwf]
                  have e4 : tolA v 1 v.first m = some (3, v.first, 3) := by simp [tolA, hc, e2, e3, kindS]
                  simp [cf4, V_av, I, SI, -getElem?_pos, h1, h2, h3, h4, hne, b1, b2, b3, hmm, al_one, askRow, h5, h6, h7, e1, e2, e3, e4, hwr, hw1', hsk, hw0, hwi, cs_0, cs_1, cs_2, cs_length, cs_take, cs_all, cs_lows, cs_drop20, mcs_len, mcs_take, mcs_all, mcs_lows, stepK.lenA, rowsI_length, rowsI_get, fillA, eq_stab, if_pos (mcsC2 m), -AV.isCell, isCell_d, isCell_n, if_pos (cs_cell2 w)]
                | true =>
                  have hA : 0 ≤ pred ∧ inB v.id pred v.first = true := by
                    unfold ahead at h8
                    rw [hmp, hms] at h8
                    simp at h8
                    exact h8
                  have e2 : tolP v 1 v.first m = 2 := by simp [tolP, hc, h8]
                  have e3 : tolO v 1 v.first m = pred := by simp [tolO, hc, h8, hmp]
                  have e4 : tolA v 1 v.first m = some (1, pred, 2) := by simp [tolA, hc, e2, e3, kindS]
                  have hA2 := hA.2
                  generalize hnn : tellS pred v.id (-1) l2 hl2 = n
                  have hn7 : n.kind = 7 := by rw [← hnn]; rfl
                  have hns : n.src = pred := by rw [← hnn]; rfl
                  have hnd : n.dest = v.id := by rw [← hnn]; rfl
                  have hnl : n.lst = l2 := by rw [← hnn]; rfl
                  have hnc : n.call < 9223372036854775808 := by rw [← hnn]; exact wrap_lt _
                  haveI : Fact (n.call < 9223372036854775808) := ⟨hnc⟩
                  haveI : Fact (tolOk w 2 n) := ⟨⟨hws, by constructor <;> omega, hnc, by rw [hnl]; omega⟩⟩
                  cases k5 : n.right with
                  | false =>
                    simp [cf4, V_av, I, SI, -getElem?_pos, h1, h2, h3, h4, hne, b1, b2, b3, hmm, al_one, askRow, h5, h6, h7, e1, e2, e3, e4, hwr, hw1', hsk, hw0, hwi, hA2, hnn, k5, cs_0, cs_1, cs_2, cs_length, cs_take, cs_all, cs_lows, cs_drop20, mcs_len, mcs_take, mcs_all, mcs_lows, stepK.lenA, rowsI_length, rowsI_get, fillA, eq_stab, if_pos (mcsC2 m), -AV.isCell, isCell_d, isCell_n, if_pos (cs_cell2 w), if_pos (mcsC2 n)]
                  | true =>
                    cases k6 : listRight pred l2 with
                    | false =>
                      simp [cf4, V_av, I, SI, -getElem?_pos, h1, h2, h3, h4, hne, b1, b2, b3, hmm, al_one, askRow, h5, h6, h7, e1, e2, e3, e4, hwr, hw1', hsk, hw0, hwi, hA2, hnn, k5, k6, cs_0, cs_1, cs_2, cs_length, cs_take, cs_all, cs_lows, cs_drop20, mcs_len, mcs_take, mcs_all, mcs_lows, stepK.lenA, rowsI_length, rowsI_get, fillA, eq_stab, if_pos (mcsC2 m), -AV.isCell, isCell_d, isCell_n, if_pos (cs_cell2 w), if_pos (mcsC2 n)]
                    | true =>
                      cases k7 : skipsL pred l2 v.base with
                      | true =>
                        simp [cf4, V_av, I, SI, -getElem?_pos, h1, h2, h3, h4, hne, b1, b2, b3, hmm, al_one, askRow, h5, h6, h7, e1, e2, e3, e4, hwr, hw1', hsk, hw0, hwi, hA2, hnn, k5, k6, k7, cs_0, cs_1, cs_2, cs_length, cs_take, cs_all, cs_lows, cs_drop20, mcs_len, mcs_take, mcs_all, mcs_lows, stepK.lenA, rowsI_length, rowsI_get, fillA, eq_stab, if_pos (mcsC2 m), -AV.isCell, isCell_d, isCell_n, if_pos (cs_cell2 w), if_pos (mcsC2 n)]
                      | false =>
                        have kc : cntB w 2 pred n = true := cnt_tell hwr (.inr rfl) k5 hn7 hns (by rw [hnd, hwi])
                        have hx := step_newV hwr k5 (by rw [hnd, hwi])
                        have hno2 : ∀ b ∈ w.base, inB w.id b n.src = false := by rw [hwb, hwi, hns]; exact no_ahead hno hA2
                        have hxs := skips_newV hwr k5 (by rw [hnd, hwi]) hno2 (by rw [hns, hnl, hwb]; exact k7)
                        rw [hns] at hx
                        rw [hx.id, hwi] at hxs
                        have f1 : tolV w 2 pred n = newV w n := by simp [tolV, kc]
                        have f2 : tolP w 2 pred n = 3 := by simp [tolP, kc, ahead]
                        have f3 : tolO w 2 pred n = pred := by simp [tolO, kc, ahead, hx.first]
                        have f4 : tolA w 2 pred n = some (3, pred, 3) := by simp [tolA, kc, f2, f3, kindS]
                        generalize newV w n = x at hx hxs f1
                        have hxi : x.id = v.id := hx.id.trans hwi
                        have hx0 := hx.l0
                        have hxr := hx.r
                        have hx1 : 0 < x.lst.length := (List.getElem?_eq_some_iff.1 hx0).1
                        have hx1' : (0 : Int) < (x.lst.length : Int) := by omega
                        obtain ⟨hxb4, hxl3⟩ := right_small hxr
                        haveI : Fact (x.lst.length < 9223372036854775807) := ⟨by omega⟩
                        haveI : Fact (x.base.length < 9223372036854775807) := ⟨by omega⟩
                        haveI : Fact (phOk 2) := ⟨by constructor <;> omega⟩
                        simp [cf4, V_av, I, SI, -getElem?_pos, h1, h2, h3, h4, hne, b1, b2, b3, hmm, al_one, askRow, h5, h6, h7, e1, e2, e3, e4, hwr, hw1', hsk, hw0, hwi, hA2, hnn, k5, k6, k7, f1, f2, f3, f4, hxr, hx0, hx1, hx1', hxi, hxs, cs_0, cs_1, cs_2, cs_length, cs_take, cs_all, cs_lows, cs_drop20, mcs_len, mcs_take, mcs_all, mcs_lows, stepK.lenA, rowsI_length, rowsI_get, fillA, eq_stab, if_pos (mcsC2 m), -AV.isCell, isCell_d, isCell_n, if_pos (cs_cell2 w), if_pos (mcsC2 n), if_pos (cs_cell2 x)]
noncomputable abbrev garlandlaw14_StabSkips_F := StabSkips_F
end Go.Proofs.YtfifgiopdbdeoaaDoor.Lite
namespace Go.Proofs.YtfifgiopdbdeoaaDoor.Lite
open Go
attribute [local simp] WL_of WL_nil WL_blk WL_skip WL_label WL_exit WL_goto WL_seq WL_block WL_cond WL_reg WL_ret WJ_nil WJ_ex WJ_gt WJ_rt WJ_exb WJ_gtb WJ_rtb WLO_nil WLO_call WO_nw stepN WO_mv WO_pick WO_new WO_box WO_ld WO_ldn WO_st WO_off WO_ixa WO_ixs WO_fld WO_fldn WO_ixv WO_ixvn WO_ixb WO_bin WO_eqb WO_isn WO_eqs WO_not WO_conv WO_mkf WO_bld WO_bls WO_sla WO_sls WO_sl0 WO_len WO_app WO_mnx WO_ext WO_nilc wants_none wants_some wantv_b wantv_t WLV_true WLV_false WLC_false WLB_true WLB_false evX_t evX_c evXs_nil evXs_cons look_put look_putN look_cons look_arg0 look_arg stepK binOpA intOp strOp evRes oneOf outs gc toDV AV.dat? I Bo av_s List.map List.append_nil getO putO AV.cellsOf bne WL_dreg WLP_nil WLP_call WP_mv WP_pick WP_new WP_box WP_ld WP_ldn WP_off WP_ixa WP_ixs WP_fld WP_fldn WP_ixv WP_ixvn WP_ixb WP_bin WP_eqb WP_isn WP_eqs WP_not WP_conv WP_mkf WP_bld WP_bls WP_sla WP_sls WP_sl0 WP_len WP_app WP_mnx WP_ext WP_nilc WLPV_true WLPV_false WLPC_false WLC_tells WLPC_tells padH onNm onEx List.getElem?_cons_zero List.getElem?_cons_succ List.getElem?_nil restrict AV.lows lay AV.isCell lowObj AObj.lows WJ_nm AV.lows.go WL_scope onGt_rt onGt_nm onGt_ex WL_sreg WP_st preSt eraseB List.set_cons_zero List.set_cons_succ frz cutR cutAs cutA WL_sregT cutB cutBs

def tell9 (s d : Int) : MW := ⟨9, tellC d, s, d, 0, false, false, 0, 0, [], [], 0, 0, false, 0, by decide⟩
theorem t9_fold (s d : Int) (h : ([] : List Int).length < 9223372036854775808) : (⟨9, tellC d, s, d, 0, false, false, 0, 0, [], [], 0, 0, false, 0, h⟩ : MW) = tell9 s d := rfl
theorem cnt_tell9 {v : VW} (hv : v.right = true) {o : Int} {m : MW} (hm : m.right = true) (hk : m.kind = 9) (hs : m.src = o) (hd : m.dest = v.id) : cntB v 3 o m = true := by
  have ho : isPlace o = true := by rw [← hs]; exact (mright_parts hm).1
  have h2 := stab_yes (p := 3) (by omega) ho
  unfold cntB
  simp [hv, h2, hm, hs, hd, hk, kindS]
structure VL where
  l : List Int
  h : l.length < 9223372036854775808
abbrev p3 (P : Int × Int × Int) : List AV := [.d (.int .i64 P.1), .d (.int .i64 P.2.1), .d (.int .i64 P.2.2)]
abbrev l3 (L : VL × VL × VL) : List AV := [vsI L.1.l, vsI L.2.1.l, vsI L.2.2.l]
noncomputable def StabEnds_F := orcOf (fun q : VW × (Int × Int × Int) × (VL × VL × VL) => [V q.1, .g [.int .i64 q.2.1.1, .int .i64 q.2.1.2.1, .int .i64 q.2.1.2.2], .g [.sl (rowsI q.2.2.1.l), .sl (rowsI q.2.2.2.1.l), .sl (rowsI q.2.2.2.2.l)]]) (fun _ => True) (fun _ => [Bo true])
noncomputable def TL3 : Tbl := tbl [(9, garlandlaw14_wakes_F), (22, garlandref13_Right_F), (10, stab_Begin_F), (28, garlandref13_Own_F), (20, stab_Why_F), (24, garlandlaw14_tell_F), (25, garlandref06_Right_F), (13, stab_Told_F), (15, garlandref13_Same_F)]
theorem TL3_ok : TblOK Tryd.prog TL3 := tbl_ok (by
  simp only [List.mem_cons, List.not_mem_nil, or_false]
  rintro p (rfl | rfl | rfl | rfl | rfl | rfl | rfl | rfl | rfl)
  · exact garlandlaw14_wakes
  · exact garlandref13_Right
  · exact stab_Begin
  · exact garlandref13_Own
  · exact stab_Why
  · exact garlandlaw14_tell
  · exact garlandref06_Right
  · exact stab_Told
  · exact garlandref13_Same)
instance : Has TL3 9 garlandlaw14_wakes_F := ⟨rfl⟩
instance : Has TL3 22 garlandref13_Right_F := ⟨rfl⟩
instance : Has TL3 10 stab_Begin_F := ⟨rfl⟩
instance : Has TL3 28 garlandref13_Own_F := ⟨rfl⟩
instance : Has TL3 20 stab_Why_F := ⟨rfl⟩
instance : Has TL3 24 garlandlaw14_tell_F := ⟨rfl⟩
instance : Has TL3 25 garlandref06_Right_F := ⟨rfl⟩
instance : Has TL3 13 stab_Told_F := ⟨rfl⟩
instance : Has TL3 15 garlandref13_Same_F := ⟨rfl⟩

def LEn : CCode := (.loop [3, 4, 5, 7, 8, 9, 10, 11] (.seq (.seq (.reg (⟨(some 28), .mv (.t 11), none⟩ ::
    ⟨(some 29), .bin .lss (.t 28) (.c (.d (.int .i64 3))), none⟩ ::
    ⟨(some 30), .mv (.t 29), none⟩ ::
    ⟨(some 31), .off 0 (.t 7), (some (30, true))⟩ ::
    ⟨(some 32), .ld (.t 31), (some (30, true))⟩ ::
    ⟨(some 33), .bin .neq (.t 32) (.c (.d (.int .u8 0))), (some (30, true))⟩ ::
    ⟨(some 34), .pick (.t 30) (.t 33) (.c (.d (.bool false))), none⟩ ::
    []))
  (.cond (.t 34) .skip (.exit 0)))
  (.seq (.block 1 (.seq (.seq (.dreg (⟨(some 37), .mv (.t 11), none⟩ ::
    ⟨(some 38), .ixa 3 1 (.t 5) (.t 37), none⟩ ::
    ⟨(some 39), .ld (.t 38), none⟩ ::
    ⟨(some 40), .len false (.t 39), none⟩ ::
    ⟨(some 41), .bin .gtr (.t 40) (.c (.d (.int .i64 6))), none⟩ ::
    ⟨(some 42), .mv (.t 41), none⟩ ::
    ⟨(some 43), .mv (.t 8), (some (42, false))⟩ ::
    ⟨(some 44), .len false (.t 43), (some (42, false))⟩ ::
    ⟨(some 45), .bin .neq (.t 44) (.c (.d (.int .i64 1))), (some (42, false))⟩ ::
    ⟨(some 46), .pick (.t 42) (.c (.d (.bool true))) (.t 45), none⟩ ::
    ⟨(some 47), .mv (.t 46), none⟩ ::
    ⟨(some 48), .mv (.t 8), (some (47, false))⟩ ::
    ⟨(some 49), .ixs 16 (.t 48) (.c (.d (.int .i64 0))), (some (47, false))⟩ ::
    ⟨(some 50), .off 15 (.t 49), (some (47, false))⟩ ::
    ⟨(some 51), .ld (.t 50), (some (47, false))⟩ ::
    ⟨(some 52), .ldn 2 (.t 7), (some (47, false))⟩ ::
    ⟨(some 53), .call (.c (.fn 20 [])) [(.t 52)], (some (47, false))⟩ ::
    ⟨(some 54), .bin .neq (.t 51) (.t 53), (some (47, false))⟩ ::
    ⟨(some 55), .pick (.t 47) (.c (.d (.bool true))) (.t 54), none⟩ ::
    ⟨(some 56), .mv (.t 55), none⟩ ::
    ⟨(some 57), .mv (.t 8), (some (56, false))⟩ ::
    ⟨(some 58), .ixs 16 (.t 57) (.c (.d (.int .i64 0))), (some (56, false))⟩ ::
    ⟨(some 59), .off 0 (.t 58), (some (56, false))⟩ ::
    ⟨(some 60), .off 3 (.t 59), (some (56, false))⟩ ::
    ⟨(some 61), .ld (.t 60), (some (56, false))⟩ ::
    ⟨(some 62), .off 1 (.t 7), (some (56, false))⟩ ::
    ⟨(some 63), .ld (.t 62), (some (56, false))⟩ ::
    ⟨(some 64), .bin .neq (.t 61) (.t 63), (some (56, false))⟩ ::
    ⟨(some 65), .pick (.t 56) (.c (.d (.bool true))) (.t 64), none⟩ ::
    []) ([]))
  (.cond (.t 65) (.seq (.reg (⟨(some 66), .mv (.t 11), none⟩ ::
    ⟨(some 67), .ixa 3 1 (.t 5) (.t 66), none⟩ ::
    ⟨(some 68), .ld (.t 67), none⟩ ::
    ⟨(some 69), .len false (.t 68), none⟩ ::
    ⟨(some 70), .bin .gtr (.t 69) (.c (.d (.int .i64 6))), none⟩ ::
    ⟨(some 71), .mv (.t 70), none⟩ ::
    ⟨(some 72), .call (.c (.fn 9 [])) [], (some (71, true))⟩ ::
    ⟨(some 73), .pick (.t 71) (.t 72) (.c (.d (.bool false))), none⟩ ::
    ⟨(some 6), .mv (.t 73), none⟩ ::
    []))
  .ret) .skip))
  (.seq (.reg (⟨(some 74), .mv (.t 10), none⟩ ::
    ⟨(some 75), .bin .add (.t 74) (.c (.d (.int .i64 1))), none⟩ ::
    ⟨(some 10), .mv (.t 75), none⟩ ::
    []))
  (.seq (.dreg (⟨(some 76), .off 1 (.t 7), none⟩ ::
    ⟨(some 77), .ld (.t 76), none⟩ ::
    ⟨(some 78), .off 0 (.t 3), none⟩ ::
    ⟨(some 79), .ld (.t 78), none⟩ ::
    ⟨(some 80), .mv (.t 11), none⟩ ::
    ⟨(some 81), .ixa 3 1 (.t 4) (.t 80), none⟩ ::
    ⟨(some 82), .ld (.t 81), none⟩ ::
    ⟨(some 83), .mv (.t 11), none⟩ ::
    ⟨(some 84), .ixa 3 1 (.t 5) (.t 83), none⟩ ::
    ⟨(some 85), .ld (.t 84), none⟩ ::
    ⟨(some 86), .call (.c (.fn 24 [])) [(.t 77), (.t 79), (.t 82), (.t 85)], none⟩ ::
    ⟨(some 12), .new [.d (.int .u8 0), .d (.int .i64 0), .d (.int .i64 0), .d (.int .i64 0), .d (.int .i64 0), .d (.bool false), .d (.bool false), .d (.int .i64 0), .d (.int .i64 0), .nils, .d (.str []), .d (.int .i64 0), .d (.int .i64 0), .d (.bool false), .d (.int .i64 0)], none⟩ ::
    []) (⟨none, .st 15 (.t 12) (.t 86), none⟩ ::
    []))
  (.seq (.seq (.reg (⟨(some 87), .off 0 (.t 7), none⟩ ::
    ⟨(some 88), .ld (.t 87), none⟩ ::
    ⟨(some 89), .bin .eql (.t 88) (.c (.d (.int .u8 3))), none⟩ ::
    []))
  (.cond (.t 89) (.reg (⟨(some 90), .off 1 (.t 12), none⟩ ::
    ⟨(some 91), .ld (.t 90), none⟩ ::
    ⟨(some 92), .off 1 (.t 7), none⟩ ::
    ⟨(some 93), .ld (.t 92), none⟩ ::
    ⟨(some 94), .off 0 (.t 3), none⟩ ::
    ⟨(some 95), .ld (.t 94), none⟩ ::
    ⟨(some 96), .bld [.d (.int .u8 0), .d (.int .i64 0), .d (.int .i64 0), .d (.int .i64 0), .d (.int .i64 0), .d (.bool false), .d (.bool false), .d (.int .i64 0), .d (.int .i64 0), .nils, .d (.str []), .d (.int .i64 0), .d (.int .i64 0), .d (.bool false), .d (.int .i64 0)] [(0, 1, (.c (.d (.int .u8 9)))), (1, 1, (.t 91)), (2, 1, (.t 93)), (3, 1, (.t 95))], none⟩ ::
    ⟨none, .st 15 (.t 12) (.t 96), none⟩ ::
    [])) .skip))
  (.seq (.seq (.reg (⟨(some 97), .ldn 15 (.t 12), none⟩ ::
    ⟨(some 98), .call (.c (.fn 25 [])) [(.t 97)], none⟩ ::
    ⟨(some 99), .not (.t 98), none⟩ ::
    []))
  (.cond (.t 99) (.seq (.reg (⟨(some 100), .call (.c (.fn 9 [])) [], none⟩ ::
    ⟨(some 6), .mv (.t 100), none⟩ ::
    []))
  .ret) .skip))
  (.seq (.reg (⟨(some 102), .ldn 20 (.t 9), none⟩ ::
    ⟨(some 103), .ldn 2 (.t 7), none⟩ ::
    ⟨(some 104), .ldn 15 (.t 12), none⟩ ::
    ⟨(some 105), .call (.c (.fn 13 [])) [(.t 102), (.t 103), (.t 104)], none⟩ ::
    ⟨(some 101), .mv (.t 105), none⟩ ::
    ⟨(some 106), .ext (.t 101) 0, none⟩ ::
    ⟨(some 107), .ext (.t 101) 1, none⟩ ::
    ⟨(some 108), .ext (.t 101) 2, none⟩ ::
    ⟨(some 13), .new [.d (.int .i64 0), .nils, .nils, .d (.int .i64 0), .d (.int .i64 0), .d (.int .i64 0), .d (.int .i64 0), .d (.int .i64 0), .d (.int .i64 0), .d (.int .i64 0), .d (.int .i64 0), .d (.int .i64 0), .d (.int .i64 0), .d (.int .i64 0), .d (.int .i64 0), .d (.int .i64 0), .d (.int .i64 0), .d (.int .i64 0), .d (.int .i64 0), .d (.int .i64 0)], none⟩ ::
    ⟨(some 14), .new [.d (.int .u8 0), .d (.int .i64 0)], none⟩ ::
    ⟨none, .st 20 (.t 13) (.t 106), none⟩ ::
    ⟨none, .st 2 (.t 14) (.t 107), none⟩ ::
    ⟨(some 15), .mv (.t 108), none⟩ ::
    []))
  (.seq (.seq (.reg (⟨(some 109), .off 0 (.t 14), none⟩ ::
    ⟨(some 110), .ld (.t 109), none⟩ ::
    ⟨(some 111), .off 0 (.t 7), none⟩ ::
    ⟨(some 112), .ld (.t 111), none⟩ ::
    ⟨(some 113), .bin .eql (.t 110) (.t 112), none⟩ ::
    ⟨(some 114), .mv (.t 113), none⟩ ::
    ⟨(some 115), .off 0 (.t 14), (some (114, false))⟩ ::
    ⟨(some 116), .ld (.t 115), (some (114, false))⟩ ::
    ⟨(some 117), .bin .neq (.t 116) (.c (.d (.int .u8 0))), (some (114, false))⟩ ::
    ⟨(some 118), .mv (.t 117), (some (114, false))⟩ ::
    ⟨(some 119), .off 0 (.t 14), (some (118, true))⟩ ::
    ⟨(some 120), .ld (.t 119), (some (118, true))⟩ ::
    ⟨(some 121), .off 0 (.t 7), (some (118, true))⟩ ::
    ⟨(some 122), .ld (.t 121), (some (118, true))⟩ ::
    ⟨(some 123), .bin .lss (.t 120) (.t 122), (some (118, true))⟩ ::
    ⟨(some 124), .pick (.t 118) (.t 123) (.c (.d (.bool false))), (some (114, false))⟩ ::
    ⟨(some 125), .pick (.t 114) (.c (.d (.bool true))) (.t 124), none⟩ ::
    ⟨(some 126), .mv (.t 125), none⟩ ::
    ⟨(some 127), .ldn 20 (.t 13), (some (126, false))⟩ ::
    ⟨(some 128), .call (.c (.fn 22 [])) [(.t 127)], (some (126, false))⟩ ::
    ⟨(some 129), .not (.t 128), (some (126, false))⟩ ::
    ⟨(some 130), .pick (.t 126) (.c (.d (.bool true))) (.t 129), none⟩ ::
    []))
  (.cond (.t 130) (.seq (.reg (⟨(some 6), .mv (.c (.d (.bool false))), none⟩ ::
    []))
  .ret) .skip))
  (.sreg [9, 7] true (⟨(some 131), .ldn 20 (.t 13), none⟩ ::
    ⟨(some 132), .ldn 2 (.t 14), none⟩ ::
    ⟨(some 133), .mv (.t 15), none⟩ ::
    ⟨none, .st 20 (.t 9) (.t 131), none⟩ ::
    ⟨none, .st 2 (.t 7) (.t 132), none⟩ ::
    []) (⟨(some 8), .mv (.t 133), none⟩ ::
    []))))))))))
  (.reg (⟨(some 35), .mv (.t 11), none⟩ ::
    ⟨(some 36), .bin .add (.t 35) (.c (.d (.int .i64 1))), none⟩ ::
    ⟨(some 11), .mv (.t 36), none⟩ ::
    [])))))
theorem LEn_eq : LEn = .loop [3, 4, 5, 7, 8, 9, 10, 11] (.seq (.seq (.reg (⟨(some 28), .mv (.t 11), none⟩ ::
    ⟨(some 29), .bin .lss (.t 28) (.c (.d (.int .i64 3))), none⟩ ::
    ⟨(some 30), .mv (.t 29), none⟩ ::
    ⟨(some 31), .off 0 (.t 7), (some (30, true))⟩ ::
    ⟨(some 32), .ld (.t 31), (some (30, true))⟩ ::
    ⟨(some 33), .bin .neq (.t 32) (.c (.d (.int .u8 0))), (some (30, true))⟩ ::
    ⟨(some 34), .pick (.t 30) (.t 33) (.c (.d (.bool false))), none⟩ ::
    []))
  (.cond (.t 34) .skip (.exit 0)))
  (.seq (.block 1 (.seq (.seq (.dreg (⟨(some 37), .mv (.t 11), none⟩ ::
    ⟨(some 38), .ixa 3 1 (.t 5) (.t 37), none⟩ ::
    ⟨(some 39), .ld (.t 38), none⟩ ::
    ⟨(some 40), .len false (.t 39), none⟩ ::
    ⟨(some 41), .bin .gtr (.t 40) (.c (.d (.int .i64 6))), none⟩ ::
    ⟨(some 42), .mv (.t 41), none⟩ ::
    ⟨(some 43), .mv (.t 8), (some (42, false))⟩ ::
    ⟨(some 44), .len false (.t 43), (some (42, false))⟩ ::
    ⟨(some 45), .bin .neq (.t 44) (.c (.d (.int .i64 1))), (some (42, false))⟩ ::
    ⟨(some 46), .pick (.t 42) (.c (.d (.bool true))) (.t 45), none⟩ ::
    ⟨(some 47), .mv (.t 46), none⟩ ::
    ⟨(some 48), .mv (.t 8), (some (47, false))⟩ ::
    ⟨(some 49), .ixs 16 (.t 48) (.c (.d (.int .i64 0))), (some (47, false))⟩ ::
    ⟨(some 50), .off 15 (.t 49), (some (47, false))⟩ ::
    ⟨(some 51), .ld (.t 50), (some (47, false))⟩ ::
    ⟨(some 52), .ldn 2 (.t 7), (some (47, false))⟩ ::
    ⟨(some 53), .call (.c (.fn 20 [])) [(.t 52)], (some (47, false))⟩ ::
    ⟨(some 54), .bin .neq (.t 51) (.t 53), (some (47, false))⟩ ::
    ⟨(some 55), .pick (.t 47) (.c (.d (.bool true))) (.t 54), none⟩ ::
    ⟨(some 56), .mv (.t 55), none⟩ ::
    ⟨(some 57), .mv (.t 8), (some (56, false))⟩ ::
    ⟨(some 58), .ixs 16 (.t 57) (.c (.d (.int .i64 0))), (some (56, false))⟩ ::
    ⟨(some 59), .off 0 (.t 58), (some (56, false))⟩ ::
    ⟨(some 60), .off 3 (.t 59), (some (56, false))⟩ ::
    ⟨(some 61), .ld (.t 60), (some (56, false))⟩ ::
    ⟨(some 62), .off 1 (.t 7), (some (56, false))⟩ ::
    ⟨(some 63), .ld (.t 62), (some (56, false))⟩ ::
    ⟨(some 64), .bin .neq (.t 61) (.t 63), (some (56, false))⟩ ::
    ⟨(some 65), .pick (.t 56) (.c (.d (.bool true))) (.t 64), none⟩ ::
    []) ([]))
  (.cond (.t 65) (.seq (.reg (⟨(some 66), .mv (.t 11), none⟩ ::
    ⟨(some 67), .ixa 3 1 (.t 5) (.t 66), none⟩ ::
    ⟨(some 68), .ld (.t 67), none⟩ ::
    ⟨(some 69), .len false (.t 68), none⟩ ::
    ⟨(some 70), .bin .gtr (.t 69) (.c (.d (.int .i64 6))), none⟩ ::
    ⟨(some 71), .mv (.t 70), none⟩ ::
    ⟨(some 72), .call (.c (.fn 9 [])) [], (some (71, true))⟩ ::
    ⟨(some 73), .pick (.t 71) (.t 72) (.c (.d (.bool false))), none⟩ ::
    ⟨(some 6), .mv (.t 73), none⟩ ::
    []))
  .ret) .skip))
  (.seq (.reg (⟨(some 74), .mv (.t 10), none⟩ ::
    ⟨(some 75), .bin .add (.t 74) (.c (.d (.int .i64 1))), none⟩ ::
    ⟨(some 10), .mv (.t 75), none⟩ ::
    []))
  (.seq (.dreg (⟨(some 76), .off 1 (.t 7), none⟩ ::
    ⟨(some 77), .ld (.t 76), none⟩ ::
    ⟨(some 78), .off 0 (.t 3), none⟩ ::
    ⟨(some 79), .ld (.t 78), none⟩ ::
    ⟨(some 80), .mv (.t 11), none⟩ ::
    ⟨(some 81), .ixa 3 1 (.t 4) (.t 80), none⟩ ::
    ⟨(some 82), .ld (.t 81), none⟩ ::
    ⟨(some 83), .mv (.t 11), none⟩ ::
    ⟨(some 84), .ixa 3 1 (.t 5) (.t 83), none⟩ ::
    ⟨(some 85), .ld (.t 84), none⟩ ::
    ⟨(some 86), .call (.c (.fn 24 [])) [(.t 77), (.t 79), (.t 82), (.t 85)], none⟩ ::
    ⟨(some 12), .new [.d (.int .u8 0), .d (.int .i64 0), .d (.int .i64 0), .d (.int .i64 0), .d (.int .i64 0), .d (.bool false), .d (.bool false), .d (.int .i64 0), .d (.int .i64 0), .nils, .d (.str []), .d (.int .i64 0), .d (.int .i64 0), .d (.bool false), .d (.int .i64 0)], none⟩ ::
    []) (⟨none, .st 15 (.t 12) (.t 86), none⟩ ::
    []))
  (.seq (.seq (.reg (⟨(some 87), .off 0 (.t 7), none⟩ ::
    ⟨(some 88), .ld (.t 87), none⟩ ::
    ⟨(some 89), .bin .eql (.t 88) (.c (.d (.int .u8 3))), none⟩ ::
    []))
  (.cond (.t 89) (.reg (⟨(some 90), .off 1 (.t 12), none⟩ ::
    ⟨(some 91), .ld (.t 90), none⟩ ::
    ⟨(some 92), .off 1 (.t 7), none⟩ ::
    ⟨(some 93), .ld (.t 92), none⟩ ::
    ⟨(some 94), .off 0 (.t 3), none⟩ ::
    ⟨(some 95), .ld (.t 94), none⟩ ::
    ⟨(some 96), .bld [.d (.int .u8 0), .d (.int .i64 0), .d (.int .i64 0), .d (.int .i64 0), .d (.int .i64 0), .d (.bool false), .d (.bool false), .d (.int .i64 0), .d (.int .i64 0), .nils, .d (.str []), .d (.int .i64 0), .d (.int .i64 0), .d (.bool false), .d (.int .i64 0)] [(0, 1, (.c (.d (.int .u8 9)))), (1, 1, (.t 91)), (2, 1, (.t 93)), (3, 1, (.t 95))], none⟩ ::
    ⟨none, .st 15 (.t 12) (.t 96), none⟩ ::
    [])) .skip))
  (.seq (.seq (.reg (⟨(some 97), .ldn 15 (.t 12), none⟩ ::
    ⟨(some 98), .call (.c (.fn 25 [])) [(.t 97)], none⟩ ::
    ⟨(some 99), .not (.t 98), none⟩ ::
    []))
  (.cond (.t 99) (.seq (.reg (⟨(some 100), .call (.c (.fn 9 [])) [], none⟩ ::
    ⟨(some 6), .mv (.t 100), none⟩ ::
    []))
  .ret) .skip))
  (.seq (.reg (⟨(some 102), .ldn 20 (.t 9), none⟩ ::
    ⟨(some 103), .ldn 2 (.t 7), none⟩ ::
    ⟨(some 104), .ldn 15 (.t 12), none⟩ ::
    ⟨(some 105), .call (.c (.fn 13 [])) [(.t 102), (.t 103), (.t 104)], none⟩ ::
    ⟨(some 101), .mv (.t 105), none⟩ ::
    ⟨(some 106), .ext (.t 101) 0, none⟩ ::
    ⟨(some 107), .ext (.t 101) 1, none⟩ ::
    ⟨(some 108), .ext (.t 101) 2, none⟩ ::
    ⟨(some 13), .new [.d (.int .i64 0), .nils, .nils, .d (.int .i64 0), .d (.int .i64 0), .d (.int .i64 0), .d (.int .i64 0), .d (.int .i64 0), .d (.int .i64 0), .d (.int .i64 0), .d (.int .i64 0), .d (.int .i64 0), .d (.int .i64 0), .d (.int .i64 0), .d (.int .i64 0), .d (.int .i64 0), .d (.int .i64 0), .d (.int .i64 0), .d (.int .i64 0), .d (.int .i64 0)], none⟩ ::
    ⟨(some 14), .new [.d (.int .u8 0), .d (.int .i64 0)], none⟩ ::
    ⟨none, .st 20 (.t 13) (.t 106), none⟩ ::
    ⟨none, .st 2 (.t 14) (.t 107), none⟩ ::
    ⟨(some 15), .mv (.t 108), none⟩ ::
    []))
  (.seq (.seq (.reg (⟨(some 109), .off 0 (.t 14), none⟩ ::
    ⟨(some 110), .ld (.t 109), none⟩ ::
    ⟨(some 111), .off 0 (.t 7), none⟩ ::
    ⟨(some 112), .ld (.t 111), none⟩ ::
    ⟨(some 113), .bin .eql (.t 110) (.t 112), none⟩ ::
    ⟨(some 114), .mv (.t 113), none⟩ ::
    ⟨(some 115), .off 0 (.t 14), (some (114, false))⟩ ::
    ⟨(some 116), .ld (.t 115), (some (114, false))⟩ ::
    ⟨(some 117), .bin .neq (.t 116) (.c (.d (.int .u8 0))), (some (114, false))⟩ ::
    ⟨(some 118), .mv (.t 117), (some (114, false))⟩ ::
    ⟨(some 119), .off 0 (.t 14), (some (118, true))⟩ ::
    ⟨(some 120), .ld (.t 119), (some (118, true))⟩ ::
    ⟨(some 121), .off 0 (.t 7), (some (118, true))⟩ ::
    ⟨(some 122), .ld (.t 121), (some (118, true))⟩ ::
    ⟨(some 123), .bin .lss (.t 120) (.t 122), (some (118, true))⟩ ::
    ⟨(some 124), .pick (.t 118) (.t 123) (.c (.d (.bool false))), (some (114, false))⟩ ::
    ⟨(some 125), .pick (.t 114) (.c (.d (.bool true))) (.t 124), none⟩ ::
    ⟨(some 126), .mv (.t 125), none⟩ ::
    ⟨(some 127), .ldn 20 (.t 13), (some (126, false))⟩ ::
    ⟨(some 128), .call (.c (.fn 22 [])) [(.t 127)], (some (126, false))⟩ ::
    ⟨(some 129), .not (.t 128), (some (126, false))⟩ ::
    ⟨(some 130), .pick (.t 126) (.c (.d (.bool true))) (.t 129), none⟩ ::
    []))
  (.cond (.t 130) (.seq (.reg (⟨(some 6), .mv (.c (.d (.bool false))), none⟩ ::
    []))
  .ret) .skip))
  (.sreg [9, 7] true (⟨(some 131), .ldn 20 (.t 13), none⟩ ::
    ⟨(some 132), .ldn 2 (.t 14), none⟩ ::
    ⟨(some 133), .mv (.t 15), none⟩ ::
    ⟨none, .st 20 (.t 9) (.t 131), none⟩ ::
    ⟨none, .st 2 (.t 7) (.t 132), none⟩ ::
    []) (⟨(some 8), .mv (.t 133), none⟩ ::
    []))))))))))
  (.reg (⟨(some 35), .mv (.t 11), none⟩ ::
    ⟨(some 36), .bin .add (.t 35) (.c (.d (.int .i64 1))), none⟩ ::
    ⟨(some 11), .mv (.t 36), none⟩ ::
    [])))) := rfl
def hEn (v w : VW) (P : Int × Int × Int) (L : VL × VL × VL) (p o : Int) : Heap := [some (.cells v.cs), some (.cells (p3 P)), some (.cells (l3 L)), some (.cells [.d (.int .u8 p), .d (.int .i64 o)]), some (.cells w.cs)]
def gP (P : Int × Int × Int) : Nat → Int
  | 0 => P.1 | 1 => P.2.1 | _ => P.2.2
def gL (L : VL × VL × VL) : Nat → VL
  | 0 => L.1 | 1 => L.2.1 | _ => L.2.2
theorem p3_get (P : Int × Int × Int) {i : Nat} (h : i < 3) : (p3 P)[i]? = some (.d (.int .i64 (gP P i))) := by
  match i, h with
  | 0, _ => rfl
  | 1, _ => rfl
  | 2, _ => rfl
theorem l3_get (L : VL × VL × VL) {i : Nat} (h : i < 3) : (l3 L)[i]? = some (vsI (gL L i).l) := by
  match i, h with
  | 0, _ => rfl
  | 1, _ => rfl
  | 2, _ => rfl
theorem p3_lows (P : Int × Int × Int) (N M : Nat) : ∀ (x : AV), x ∈ p3 P → AV.lows N M x = true := by intro x hx; simp at hx; rcases hx with rfl | rfl | rfl <;> rfl
theorem l3_lows (L : VL × VL × VL) (N M : Nat) : ∀ (x : AV), x ∈ l3 L → AV.lows N M x = true := by intro x hx; simp at hx; rcases hx with rfl | rfl | rfl <;> rfl
/-- what a round leaves as it was -/
structure KeptI (v w : VW) : Prop where
  r : w.right = true
  id : w.id = v.id
  back : w.withL v.lst v.hl = v
theorem kept_new {v w : VW} (h : KeptI v w) {m : MW} : KeptI v (newV w m) :=
  ⟨withL_right h.r (makeL_right _ _ _), h.id, h.back⟩
def stp (p : Int) : Prop := p = 1 ∨ p = 2 ∨ p = 3
set_option maxRecDepth 100000 in
set_option maxHeartbeats 16000000 in
theorem ends_loop (v : VW) (P : Int × Int × Int) (L : VL × VL × VL) : ∀ (n i : Nat), i + n = 3 → ∀ (w : VW) (p o : Int) (ask : Option (Int × Int × Int)) (env : Env), KeptI v w →
    (p = 0 ∧ o = 0 ∧ 2 ≤ i ∧ ask = none ∨ (i : Int) + 1 ≤ p ∧ (i = 0 → p = 1) ∧ stp p ∧ isPlace o = true ∧ ask = some (kindS p, o, p)) →
    look env 3 = some (.ptr 0 0) → look env 4 = some (.ptr 1 0) → look env 5 = some (.ptr 2 0) → look env 7 = some (.ptr 3 0) → look env 8 = some (.d (.sl (al ask))) → look env 9 = some (.ptr 4 0) → look env 10 = some (.d (.int .i64 i)) → look env 11 = some (.d (.int .i64 i)) →
    ∀ (Q : Ex → Env → St → Prop), (∀ (w' : VW) (k : Nat) env', KeptI v w' → 2 ≤ k → k ≤ 3 → look env' 3 = some (.ptr 0 0) → look env' 7 = some (.ptr 3 0) → look env' 8 = some (.d (.sl [])) → look env' 9 = some (.ptr 4 0) → look env' 10 = some (.d (.int .i64 k)) → Q (.ex 0) env' ⟨hEn v w' P L 0 0, []⟩) →
    (∀ env' h', look env' 6 = some (.d (.bool true)) → Q .rt env' ⟨h', []⟩) → W TL3 ⟨[], 0⟩ LEn env ⟨hEn v w P L p o, []⟩ Q := by
  intro n
  induction n with
  | zero =>
    intro i hi w p o ask env hk hst h3 h4 h5 h7 h8 h9 h10 h11 Q hQ1 hQ2
    have e3 : ¬ ((i : Int) < 3) := by omega
    rcases hst with ⟨rfl, rfl, h2i, rfl⟩ | ⟨h1, _, hp, _⟩
    · rw [LEn_eq, W_loop]
      simp [-getElem?_pos, h3, h4, h5, h7, h8, h9, h10, h11, e3, hEn]
      exact hQ1 w i _ hk h2i (by omega) (by simp [-getElem?_pos, h3]) (by simp [-getElem?_pos, h7]) (by simp [-getElem?_pos, h8, al]) (by simp [-getElem?_pos, h9]) (by simp [-getElem?_pos, h10])
    · exfalso; rcases hp with rfl | rfl | rfl <;> omega
  | succ n ih =>
    intro i hi w p o ask env hk hst h3 h4 h5 h7 h8 h9 h10 h11 Q hQ1 hQ2
    have e3 : ((i : Int) < 3) := by omega
    have hi3 : i < 3 := by omega
    rcases hst with ⟨rfl, rfl, h2i, rfl⟩ | ⟨h1, h1b, hp, ho, rfl⟩
    · rw [LEn_eq, W_loop]
      simp [-getElem?_pos, h3, h4, h5, h7, h8, h9, h10, h11, e3, hEn]
      exact hQ1 w i _ hk h2i (by omega) (by simp [-getElem?_pos, h3]) (by simp [-getElem?_pos, h7]) (by simp [-getElem?_pos, h8, al]) (by simp [-getElem?_pos, h9]) (by simp [-getElem?_pos, h10])
    · have hwr := hk.r
      have hwi := hk.id
      obtain ⟨hwb4, hwl3⟩ := right_small hwr
      have hws : w.small := ⟨by omega, by omega⟩
      have w1 : IntKind.i64.wrap 1 = 1 := by decide
      have w2 : IntKind.i64.wrap 2 = 2 := by decide
      have w3 : IntKind.i64.wrap 3 = 3 := by decide
      have hlv := vcs_low v
      have hlw := vcs_low w
      rcases hp with rfl | rfl | rfl
      · obtain rfl : i = 0 := by omega
        have hsr : stabRight 1 o = true := stab_yes (by omega) ho
        have hwy : whyS 1 o = 1 := by simp [whyS, hsr]
        haveI : Fact (phOk 1) := ⟨by constructor <;> omega⟩
        haveI : Fact (L.1.l.length < 9223372036854775808) := ⟨L.1.h⟩
        by_cases h6 : (6 : Int) < (L.1.l.length : Int)
        · rw [LEn_eq, W_loop]
          simp [-getElem?_pos, h3, h4, h5, h7, h8, h9, h10, h11, hEn, h6, hwy, kindS, cs_0, cs_1, cs_2, cs_length, cs_take, cs_all, cs_lows, cs_drop20, mcs_len, mcs_take, mcs_all, mcs_lows, mcs_if, vcs_if, stepK.lenA, rowsI_length, rowsI_get, fillA, eq_stab, if_pos (cs_cell2 w), -AV.isCell, isCell_d, isCell_n, al_one, al, askRow]
          exact hQ2 _ _ (by simp [-getElem?_pos])
        · generalize hmm : tellS o v.id P.1 L.1.l L.1.h = m
          have hm7 : m.kind = 7 := by rw [← hmm]; rfl
          have hmc : m.call < 9223372036854775808 := by rw [← hmm]; exact wrap_lt _
          have hml : m.lst.length ≤ 4294967290 := by rw [← hmm]; show L.1.l.length ≤ _; omega
          have hms : m.src = o := by rw [← hmm]; rfl
          have hmd : m.dest = v.id := by rw [← hmm]; rfl
          haveI : Fact (m.call < 9223372036854775808) := ⟨hmc⟩
          haveI : Fact (tolOk w 1 m) := ⟨⟨hws, by constructor <;> omega, hmc, hml⟩⟩
          cases hm : m.right with
          | false =>
            rw [LEn_eq, W_loop]
            simp [-getElem?_pos, h3, h4, h5, h7, h8, h9, h10, h11, hEn, h6, hwy, kindS, hmm, hm, cs_0, cs_1, cs_2, cs_length, cs_take, cs_all, cs_lows, cs_drop20, mcs_len, mcs_take, mcs_all, mcs_lows, mcs_if, vcs_if, stepK.lenA, rowsI_length, rowsI_get, fillA, eq_stab, if_pos (mcsC2 m), if_pos (cs_cell2 w), -AV.isCell, isCell_d, isCell_n, al_one, al, askRow]
            exact hQ2 _ _ (by simp [-getElem?_pos])
          | true =>
            have hc : cntB w 1 o m = true := cnt_tell hwr (.inl rfl) hm hm7 hms (by rw [hmd, hwi])
            have hkn : KeptI v (newV w m) := kept_new hk
            generalize hu : newV w m = u at hkn
            have hur := hkn.r
            have hul := cs_length u
            have hlu := vcs_low u
            cases hah : ahead w 1 m with
            | true =>
              have hpl : isPlace m.pred = true := pred_place hm (by simpa using hm7) (by unfold ahead at hah; simp at hah; exact hah.1)
              have e1 : tolV w 1 o m = u := by simp [tolV, hc, hu]
              have e2 : tolP w 1 o m = 2 := by simp [tolP, hc, hah]
              have e3 : tolO w 1 o m = m.pred := by simp [tolO, hc, hah, hu]
              have e4 : tolA w 1 o m = some (1, m.pred, 2) := by simp [tolA, hc, e2, e3, kindS]
              rw [LEn_eq, W_loop]
              simp [-getElem?_pos, h3, h4, h5, h7, h8, h9, h10, h11, hEn, h6, hwy, kindS, hmm, hm, e1, e2, e3, e4, hur, w1, w2, w3, cs_0, cs_1, cs_2, cs_length, cs_take, cs_all, cs_lows, cs_drop20, mcs_len, mcs_take, mcs_all, mcs_lows, mcs_if, vcs_if, stepK.lenA, rowsI_length, rowsI_get, fillA, eq_stab, if_pos (mcsC2 m), if_pos (cs_cell2 w), -AV.isCell, isCell_d, isCell_n, al_one, al, askRow, if_pos (cs_cell2 u), hul]
              refine (WL_of (c := LEn)).1 (ih 1 (by omega) u 2 m.pred (some (1, m.pred, 2)) _ hkn (.inr ⟨by omega, by omega, .inr (.inl rfl), hpl, rfl⟩) ?_ ?_ ?_ ?_ ?_ ?_ ?_ ?_ Q hQ1 hQ2)
              all_goals (simp [-getElem?_pos, h3, h4, h5, h7, h8, h9, h10, h11, al_one, al, askRow, kindS])
            | false =>
              have e1 : tolV w 1 o m = u := by simp [tolV, hc, hu]
              have e2 : tolP w 1 o m = 3 := by simp [tolP, hc, hah]
              have e3 : tolO w 1 o m = u.first := by simp [tolO, hc, hah, hu]
              have e4 : tolA w 1 o m = some (3, u.first, 3) := by simp [tolA, hc, e2, e3, kindS]
              rw [LEn_eq, W_loop]
              simp [-getElem?_pos, h3, h4, h5, h7, h8, h9, h10, h11, hEn, h6, hwy, kindS, hmm, hm, e1, e2, e3, e4, hur, w1, w2, w3, cs_0, cs_1, cs_2, cs_length, cs_take, cs_all, cs_lows, cs_drop20, mcs_len, mcs_take, mcs_all, mcs_lows, mcs_if, vcs_if, stepK.lenA, rowsI_length, rowsI_get, fillA, eq_stab, if_pos (mcsC2 m), if_pos (cs_cell2 w), -AV.isCell, isCell_d, isCell_n, al_one, al, askRow, if_pos (cs_cell2 u), hul]
              refine (WL_of (c := LEn)).1 (ih 1 (by omega) u 3 u.first (some (3, u.first, 3)) _ hkn (.inr ⟨by omega, by omega, .inr (.inr rfl), first_place hur, rfl⟩) ?_ ?_ ?_ ?_ ?_ ?_ ?_ ?_ Q hQ1 hQ2)
              all_goals (simp [-getElem?_pos, h3, h4, h5, h7, h8, h9, h10, h11, al_one, al, askRow, kindS])
      · obtain rfl : i = 1 := by
          rcases Nat.lt_or_ge i 1 with h | h
          · have := h1b (by omega); omega
          · omega
        have hsr : stabRight 2 o = true := stab_yes (by omega) ho
        have hwy : whyS 2 o = 2 := by simp [whyS, hsr]
        haveI : Fact (phOk 2) := ⟨by constructor <;> omega⟩
        haveI : Fact (L.2.1.l.length < 9223372036854775808) := ⟨L.2.1.h⟩
        by_cases h6 : (6 : Int) < (L.2.1.l.length : Int)
        · rw [LEn_eq, W_loop]
          simp [-getElem?_pos, h3, h4, h5, h7, h8, h9, h10, h11, hEn, h6, hwy, kindS, cs_0, cs_1, cs_2, cs_length, cs_take, cs_all, cs_lows, cs_drop20, mcs_len, mcs_take, mcs_all, mcs_lows, mcs_if, vcs_if, stepK.lenA, rowsI_length, rowsI_get, fillA, eq_stab, if_pos (cs_cell2 w), -AV.isCell, isCell_d, isCell_n, al_one, al, askRow]
          exact hQ2 _ _ (by simp [-getElem?_pos])
        · generalize hmm : tellS o v.id P.2.1 L.2.1.l L.2.1.h = m
          have hm7 : m.kind = 7 := by rw [← hmm]; rfl
          have hmc : m.call < 9223372036854775808 := by rw [← hmm]; exact wrap_lt _
          have hml : m.lst.length ≤ 4294967290 := by rw [← hmm]; show L.2.1.l.length ≤ _; omega
          have hms : m.src = o := by rw [← hmm]; rfl
          have hmd : m.dest = v.id := by rw [← hmm]; rfl
          haveI : Fact (m.call < 9223372036854775808) := ⟨hmc⟩
          haveI : Fact (tolOk w 2 m) := ⟨⟨hws, by constructor <;> omega, hmc, hml⟩⟩
          cases hm : m.right with
          | false =>
            rw [LEn_eq, W_loop]
            simp [-getElem?_pos, h3, h4, h5, h7, h8, h9, h10, h11, hEn, h6, hwy, kindS, hmm, hm, cs_0, cs_1, cs_2, cs_length, cs_take, cs_all, cs_lows, cs_drop20, mcs_len, mcs_take, mcs_all, mcs_lows, mcs_if, vcs_if, stepK.lenA, rowsI_length, rowsI_get, fillA, eq_stab, if_pos (mcsC2 m), if_pos (cs_cell2 w), -AV.isCell, isCell_d, isCell_n, al_one, al, askRow]
            exact hQ2 _ _ (by simp [-getElem?_pos])
          | true =>
            have hc : cntB w 2 o m = true := cnt_tell hwr (.inr rfl) hm hm7 hms (by rw [hmd, hwi])
            have hkn : KeptI v (newV w m) := kept_new hk
            generalize hu : newV w m = u at hkn
            have hur := hkn.r
            have hul := cs_length u
            have hlu := vcs_low u
            have e1 : tolV w 2 o m = u := by simp [tolV, hc, hu]
            have e2 : tolP w 2 o m = 3 := by simp [tolP, hc, ahead]
            have e3 : tolO w 2 o m = u.first := by simp [tolO, hc, ahead, hu]
            have e4 : tolA w 2 o m = some (3, u.first, 3) := by simp [tolA, hc, e2, e3, kindS]
            rw [LEn_eq, W_loop]
            simp [-getElem?_pos, h3, h4, h5, h7, h8, h9, h10, h11, hEn, h6, hwy, kindS, hmm, hm, e1, e2, e3, e4, hur, w1, w2, w3, cs_0, cs_1, cs_2, cs_length, cs_take, cs_all, cs_lows, cs_drop20, mcs_len, mcs_take, mcs_all, mcs_lows, mcs_if, vcs_if, stepK.lenA, rowsI_length, rowsI_get, fillA, eq_stab, if_pos (mcsC2 m), if_pos (cs_cell2 w), -AV.isCell, isCell_d, isCell_n, al_one, al, askRow, if_pos (cs_cell2 u), hul]
            refine (WL_of (c := LEn)).1 (ih 2 (by omega) u 3 u.first (some (3, u.first, 3)) _ hkn (.inr ⟨by omega, by omega, .inr (.inr rfl), first_place hur, rfl⟩) ?_ ?_ ?_ ?_ ?_ ?_ ?_ ?_ Q hQ1 hQ2)
            all_goals (simp [-getElem?_pos, h3, h4, h5, h7, h8, h9, h10, h11, al_one, al, askRow, kindS])
      · have hi12 : i = 1 ∨ i = 2 := by
          rcases Nat.lt_or_ge i 1 with h | h
          · have := h1b (by omega); omega
          · omega
        rcases hi12 with rfl | rfl
        · have : True := trivial
          have hsr : stabRight 3 o = true := stab_yes (by omega) ho
          have hwy : whyS 3 o = 3 := by simp [whyS, hsr]
          haveI : Fact (phOk 3) := ⟨by constructor <;> omega⟩
          haveI : Fact (L.2.1.l.length < 9223372036854775808) := ⟨L.2.1.h⟩
          by_cases h6 : (6 : Int) < (L.2.1.l.length : Int)
          · rw [LEn_eq, W_loop]
            simp [-getElem?_pos, h3, h4, h5, h7, h8, h9, h10, h11, hEn, h6, hwy, kindS, cs_0, cs_1, cs_2, cs_length, cs_take, cs_all, cs_lows, cs_drop20, mcs_len, mcs_take, mcs_all, mcs_lows, mcs_if, vcs_if, stepK.lenA, rowsI_length, rowsI_get, fillA, eq_stab, if_pos (cs_cell2 w), -AV.isCell, isCell_d, isCell_n, al_one, al, askRow]
            exact hQ2 _ _ (by simp [-getElem?_pos])
          · generalize hmm : tellS o v.id P.2.1 L.2.1.l L.2.1.h = m
            have hm01 : m.cs[1]? = some (.d (.int .i64 (tellC v.id))) := by rw [← hmm]; rfl
            haveI : Fact (MW.call ⟨9, tellC v.id, o, v.id, 0, false, false, 0, 0, [], [], 0, 0, false, 0, by decide⟩ < 9223372036854775808) := ⟨wrap_lt _⟩
            haveI : Fact (tolOk w 3 ⟨9, tellC v.id, o, v.id, 0, false, false, 0, 0, [], [], 0, 0, false, 0, by decide⟩) := ⟨⟨hws, by constructor <;> omega, wrap_lt _, Nat.zero_le _⟩⟩
            cases hm : (tell9 o v.id).right with
            | false =>
              rw [LEn_eq, W_loop]
              simp [-getElem?_pos, h3, h4, h5, h7, h8, h9, h10, h11, hEn, h6, hwy, kindS, hmm, hm, t9_fold, hm01, cs_0, cs_1, cs_2, cs_length, cs_take, cs_all, cs_lows, cs_drop20, mcs_len, mcs_take, mcs_all, mcs_lows, mcs_if, vcs_if, stepK.lenA, rowsI_length, rowsI_get, fillA, eq_stab, if_pos (mcsC2 m), if_pos (cs_cell2 w), -AV.isCell, isCell_d, isCell_n, al_one, al, askRow]
              exact hQ2 _ _ (by simp [-getElem?_pos])
            | true =>
              have hc : cntB w 3 o (tell9 o v.id) = true := cnt_tell9 hwr hm rfl rfl (by rw [hwi]; rfl)
              have e1 : tolV w 3 o (tell9 o v.id) = w := by simp [tolV, hc]
              have e2 : tolP w 3 o (tell9 o v.id) = 0 := by simp [tolP, hc, ahead]
              have e3 : tolO w 3 o (tell9 o v.id) = 0 := by simp [tolO, hc, ahead]
              have e4 : tolA w 3 o (tell9 o v.id) = none := by simp [tolA, hc]
              rw [LEn_eq, W_loop]
              simp [-getElem?_pos, h3, h4, h5, h7, h8, h9, h10, h11, hEn, h6, hwy, kindS, hmm, hm, t9_fold, hm01, e1, e2, e3, e4, hwr, w1, w2, w3, cs_0, cs_1, cs_2, cs_length, cs_take, cs_all, cs_lows, cs_drop20, mcs_len, mcs_take, mcs_all, mcs_lows, mcs_if, vcs_if, stepK.lenA, rowsI_length, rowsI_get, fillA, eq_stab, if_pos (mcsC2 m), if_pos (cs_cell2 w), -AV.isCell, isCell_d, isCell_n, al_one, al, askRow]
              refine (WL_of (c := LEn)).1 (ih 2 (by omega) w 0 0 (none) _ hk (.inl ⟨rfl, rfl, by omega, rfl⟩) ?_ ?_ ?_ ?_ ?_ ?_ ?_ ?_ Q hQ1 hQ2)
              all_goals (simp [-getElem?_pos, h3, h4, h5, h7, h8, h9, h10, h11, al_one, al, askRow, kindS])
        · have : True := trivial
          have hsr : stabRight 3 o = true := stab_yes (by omega) ho
          have hwy : whyS 3 o = 3 := by simp [whyS, hsr]
          haveI : Fact (phOk 3) := ⟨by constructor <;> omega⟩
          haveI : Fact (L.2.2.l.length < 9223372036854775808) := ⟨L.2.2.h⟩
          by_cases h6 : (6 : Int) < (L.2.2.l.length : Int)
          · rw [LEn_eq, W_loop]
            simp [-getElem?_pos, h3, h4, h5, h7, h8, h9, h10, h11, hEn, h6, hwy, kindS, cs_0, cs_1, cs_2, cs_length, cs_take, cs_all, cs_lows, cs_drop20, mcs_len, mcs_take, mcs_all, mcs_lows, mcs_if, vcs_if, stepK.lenA, rowsI_length, rowsI_get, fillA, eq_stab, if_pos (cs_cell2 w), -AV.isCell, isCell_d, isCell_n, al_one, al, askRow]
            exact hQ2 _ _ (by simp [-getElem?_pos])
          · generalize hmm : tellS o v.id P.2.2 L.2.2.l L.2.2.h = m
            have hm01 : m.cs[1]? = some (.d (.int .i64 (tellC v.id))) := by rw [← hmm]; rfl
            haveI : Fact (MW.call ⟨9, tellC v.id, o, v.id, 0, false, false, 0, 0, [], [], 0, 0, false, 0, by decide⟩ < 9223372036854775808) := ⟨wrap_lt _⟩
            haveI : Fact (tolOk w 3 ⟨9, tellC v.id, o, v.id, 0, false, false, 0, 0, [], [], 0, 0, false, 0, by decide⟩) := ⟨⟨hws, by constructor <;> omega, wrap_lt _, Nat.zero_le _⟩⟩
            cases hm : (tell9 o v.id).right with
            | false =>
              rw [LEn_eq, W_loop]
              simp [-getElem?_pos, h3, h4, h5, h7, h8, h9, h10, h11, hEn, h6, hwy, kindS, hmm, hm, t9_fold, hm01, cs_0, cs_1, cs_2, cs_length, cs_take, cs_all, cs_lows, cs_drop20, mcs_len, mcs_take, mcs_all, mcs_lows, mcs_if, vcs_if, stepK.lenA, rowsI_length, rowsI_get, fillA, eq_stab, if_pos (mcsC2 m), if_pos (cs_cell2 w), -AV.isCell, isCell_d, isCell_n, al_one, al, askRow]
              exact hQ2 _ _ (by simp [-getElem?_pos])
            | true =>
              have hc : cntB w 3 o (tell9 o v.id) = true := cnt_tell9 hwr hm rfl rfl (by rw [hwi]; rfl)
              have e1 : tolV w 3 o (tell9 o v.id) = w := by simp [tolV, hc]
              have e2 : tolP w 3 o (tell9 o v.id) = 0 := by simp [tolP, hc, ahead]
              have e3 : tolO w 3 o (tell9 o v.id) = 0 := by simp [tolO, hc, ahead]
              have e4 : tolA w 3 o (tell9 o v.id) = none := by simp [tolA, hc]
              rw [LEn_eq, W_loop]
              simp [-getElem?_pos, h3, h4, h5, h7, h8, h9, h10, h11, hEn, h6, hwy, kindS, hmm, hm, t9_fold, hm01, e1, e2, e3, e4, hwr, w1, w2, w3, cs_0, cs_1, cs_2, cs_length, cs_take, cs_all, cs_lows, cs_drop20, mcs_len, mcs_take, mcs_all, mcs_lows, mcs_if, vcs_if, stepK.lenA, rowsI_length, rowsI_get, fillA, eq_stab, if_pos (mcsC2 m), if_pos (cs_cell2 w), -AV.isCell, isCell_d, isCell_n, al_one, al, askRow]
              refine (WL_of (c := LEn)).1 (ih 3 (by omega) w 0 0 (none) _ hk (.inl ⟨rfl, rfl, by omega, rfl⟩) ?_ ?_ ?_ ?_ ?_ ?_ ?_ ?_ Q hQ1 hQ2)
              all_goals (simp [-getElem?_pos, h3, h4, h5, h7, h8, h9, h10, h11, al_one, al, askRow, kindS])
theorem p3_av (P : Int × Int × Int) : (DV.g [.int .i64 P.1, .int .i64 P.2.1, .int .i64 P.2.2]).av = .agg [.d (.int .i64 P.1), .d (.int .i64 P.2.1), .d (.int .i64 P.2.2)] := rfl
theorem l3_av (L : VL × VL × VL) : (DV.g [.sl (rowsI L.1.l), .sl (rowsI L.2.1.l), .sl (rowsI L.2.2.l)]).av = .agg [vsI L.1.l, vsI L.2.1.l, vsI L.2.2.l] := rfl
set_option maxRecDepth 100000 in
set_option maxHeartbeats 8000000 in
theorem garlandlaw14_StabEnds : Pure Tryd.prog 5 StabEnds_F := by
  refine con TL3_ok rfl rfl fun ⟨v, P, L⟩ _ => ⟨rfl, ?_⟩
  cases h1 : v.right with
  | false => simp [cf5, V_av, p3_av, l3_av, -getElem?_pos, h1, cs_length, cs_take, cs_all, cs_lows]
  | true =>
    obtain ⟨hb4, hl3⟩ := right_small h1
    haveI : Fact v.small := ⟨⟨by omega, by omega⟩⟩
    haveI : Fact (phOk 0) := ⟨by constructor <;> omega⟩
    have hbB : begB v 0 0 = true := by simp [begB, h1]
    have b1 : begP v 0 0 = 1 := by simp [begP, hbB]
    have b2 : begO v 0 0 = v.first := by simp [begO, hbB]
    have b3 : begA v 0 0 = some (1, v.first, 1) := by simp [begA, hbB]
    simp [cf5, V_av, p3_av, l3_av, -getElem?_pos, h1, b1, b2, b3, cs_0, cs_length, cs_take, cs_all, cs_lows, cs_drop20, vcs_if, fillA, if_pos (cs_cell2 v), -AV.isCell, isCell_d, isCell_n]
    rw [WL_code]
    refine ends_loop v P L 3 0 rfl v 1 v.first (some (1, v.first, 1)) _ ⟨h1, rfl, rfl⟩ (.inr ⟨by omega, fun _ => rfl, .inl rfl, first_place h1, rfl⟩) ?_ ?_ ?_ ?_ ?_ ?_ ?_ ?_ _ (fun w k env' hk h2k hk3 g3 g7 g8 g9 g10 => ?_) (fun env' h' g6 => ?_)
    all_goals (try (simp [-getElem?_pos]; done))
    · have hb : w.cs.take 2 ++ vsI v.lst :: w.cs.drop 3 = v.cs := by rw [cs_layL w v.lst v.hl, hk.back]
      have k2 : (2 : Int) ≤ (k : Int) := by omega
      have k3 : (k : Int) ≤ 3 := by omega
      simp [-getElem?_pos, g3, g7, g8, g9, g10, hEn, hb, k2, k3, h2k, hk3, VW.same_refl, cs_2, cs_length, cs_take, cs_all, cs_lows, cs_drop20, vcs_if, fillA, eq_stab, stepK.lenA, if_pos (cs_cell2 v), -AV.isCell, isCell_d, isCell_n]
    · simp [-getElem?_pos, g6]
noncomputable abbrev garlandlaw14_StabEnds_F := StabEnds_F
end Go.Proofs.YtfifgiopdbdeoaaDoor.Lite
section
set_option maxRecDepth 100000
namespace Go.Proofs.YtfifgiopdbdeoaaDoor.Lite.stabEnds
open Go Go.RowKit Go.ChangeShapes Go.WideShapes Go.ChangeAt Go.Proofs.YtfifgiopdbdeoaaDoor Go.Proofs.YtfifgiopdbdeoaaDoor.Lite
def isArr (P : Program) (t : TypeId) : Bool := match P.underlying t with
  | some (.array _ _) => true
  | _ => false
section
variable {H : Type} {enc : TypeId × Value → H} {P : Program} {w : World} {r : Reach} {base : Nat} {spare : Nat → Bool} {held : Bool} {t : TypeId} {v : Value} {d : DataW H} {ps : List MemPlace}
theorem agg_arr (ht : isArr P t = true) (h : Value.okWide P w r base t v) : ∃ cs, v = .agg cs := by
  unfold isArr at ht
  split at ht
  · rename_i n e hu
    simp only [Value.okWide, hu] at h
    obtain ⟨cs, h1, _⟩ := h
    exact ⟨cs, h1⟩
  · cases ht
theorem open_arr {ts : List DTy} {m : Nat} (ht : isArr P t = true) (hf : flatTy P m t = some ts) (hv : Value.okWide P w r base t v) (h : DataW.Trod enc P w 0 spare held t v d ps) : ∃ ds, DVRel (Sall w) w (.g ds) v ∧ ∃ vs, Op w ts ds vs := by
  obtain ⟨arr, rfl⟩ := agg_arr ht hv
  obtain ⟨fuel, h⟩ := h
  obtain ⟨ds, hd⟩ := trod_op fuel m t _ _ ts h hf
  refine ⟨ds, ⟨arr, rfl, ?_, fun j x u hx hu => hd.get j x u hx (by simpa [Value.cells] using hu)⟩, _, hd⟩
  have := hd.len
  simp [Value.cells] at this
  omega
theorem open_A3 {m : Nat} (ht : isArr P t = true) (hf : flatTy P m t = some [tI, tI, tI]) (hv : Value.okWide P w r base t v) (h : DataW.Trod enc P w 0 spare held t v d ps) : ∃ x : Int × Int × Int, DVRel (Sall w) w (.g [.int .i64 x.1, .int .i64 x.2.1, .int .i64 x.2.2]) v := by
  obtain ⟨ds, h1, vs, h2⟩ := open_arr ht hf hv h
  have h3 := h2.tyL
  obtain _ | ⟨a1, h3⟩ := h3
  obtain _ | ⟨a2, h3⟩ := h3
  obtain _ | ⟨a3, h3⟩ := h3
  cases h3
  cases a1; cases a2; cases a3
  exact ⟨(_, _, _), h1⟩
theorem open_S3 {m : Nat} (ht : isArr P t = true) (hf : flatTy P m t = some [tIs, tIs, tIs]) (hv : Value.okWide P w r base t v) (h : DataW.Trod enc P w 0 spare held t v d ps) : ∃ x : VL × VL × VL, DVRel (Sall w) w (.g [.sl (rowsI x.1.l), .sl (rowsI x.2.1.l), .sl (rowsI x.2.2.l)]) v := by
  obtain ⟨ds, h1, vs, h2⟩ := open_arr ht hf hv h
  have h3 := h2.tyL
  obtain _ | ⟨a1, h3⟩ := h3
  obtain _ | ⟨a2, h3⟩ := h3
  obtain _ | ⟨a3, h3⟩ := h3
  cases h3
  have key : ∀ d, Ty tIs d → ∃ l : VL, d = .sl (rowsI l.l) := fun d hd => by
    cases hd with
    | sl _ rows ha hb hc =>
      obtain ⟨l, rfl, hl⟩ := ints_ty (.sl _ rows ha hb hc)
      exact ⟨⟨l, hl⟩, rfl⟩
  obtain ⟨x, rfl⟩ := key _ a1
  obtain ⟨y, rfl⟩ := key _ a2
  obtain ⟨z, rfl⟩ := key _ a3
  exact ⟨(x, y, z), h1⟩
end
theorem lifted (os : Os) (started : os.Started) (H : Type) (enc : TypeId × Value → H) :
    ReturnsInHanded {} Tryd.checked os 5 .any (fun w args => (Rows.stabEndsSpec.pre enc Tryd.prog Tryd.f5 [] false w args ∧ laidMetH Tryd.prog laid1 w) ∧ sizedMet enc Tryd.prog Tryd.f5 (OpenSpec.ofChange Rows.stabEndsSpec) false w args) (Rows.stabEndsSpec.post enc Tryd.prog Tryd.f5 false true false false) := by
  refine returnsInHanded_of_change_and (C := Tryd.checked) (X := fun w _ => laidMetH Tryd.prog laid1 w) (fun _ _ _ hh h => h.of_heap hh) own started (by kernel_rfl) Tryd.func5
    (ChangeSpec.witness_shaped (enc := enc) (C := Tryd.checked) (os := os) (X := fun w _ => laidMetH Tryd.prog laid1 w) false (World.doorLaid Tryd.prog 400 os) #[.agg #[.int .i64 0, .slice none 0 0, .slice none 0 0, .int .i64 0, .int .i64 0, .int .i64 0, .int .i64 0, .int .i64 0, .int .i64 0, .int .i64 0, .int .i64 0, .int .i64 0, .int .i64 0, .int .i64 0, .int .i64 0, .int .i64 0, .int .i64 0, .int .i64 0, .int .i64 0, .int .i64 0], .agg #[.int .i64 0, .int .i64 0, .int .i64 0], .agg #[.slice none 0 0, .slice none 0 0, .slice none 0 0]] 8 rfl (World.shaped_of_RefB (by kernel_rfl) (by kernel_rfl)) (by kernel_rfl) (by kernel_rfl) (by kernel_rfl) (door_met os _)) ?_
  intro W base args ds gs before hval0 hW _ _ hL _
  have hval : ∀ (j : Nat) t v, Tryd.f5.params[j]? = some t → args[j]? = some v → Value.okWide Tryd.prog W .any base t v := hval0
  have hW' := hW
  obtain ⟨p, q, hA0, hV, rfl, hfz, hnd⟩ := hW
  have hA : DataW.TrodAll enc Tryd.prog W 0 (fun _ => true) true Tryd.f5.params.toList args.toList ds p := hA0
  rw [Tryd.params5] at hA hval
  obtain ⟨v0, vs0, d0, ds0, p0, q0, hargs, rfl, rfl, h0, r0⟩ := trodAll_cons hA
  obtain ⟨v1, vs1, d1, ds1, p1, q1, rfl, rfl, rfl, h1, r1⟩ := trodAll_cons r0
  obtain ⟨v2, vs2, d2, ds2, p2, q2, rfl, rfl, rfl, h2, r2⟩ := trodAll_cons r1
  obtain ⟨rfl, rfl, rfl⟩ := trodAll_nil r2
  obtain rfl : args = #[v0, v1, v2] := by cases args; simp_all
  obtain ⟨rfl, rfl⟩ := trodVars_none hV
  obtain ⟨x0, e0⟩ := open_V (m := 5) (by kernel_rfl) (by kernel_rfl) (hval 0 _ v0 rfl rfl) h0
  obtain ⟨x1, e1⟩ := open_A3 (m := 5) (by kernel_rfl) (by kernel_rfl) (hval 1 _ v1 rfl rfl) h1
  obtain ⟨x2, e2⟩ := open_S3 (m := 5) (by kernel_rfl) (by kernel_rfl) (hval 2 _ v2 rfl rfl) h2
  have hgi := gi_of_laid hL
  clear hA0 hval0
  refine (law_holds garlandlaw14_StabEnds hgi (orcOf_const (x := (x0, x1, x2)) (by first | trivial | assumption | exact ⟨by assumption, by assumption⟩)) rfl (rel_cons e0 (rel_cons e1 (rel_cons e2 rel_nil)))).mono fun e W' ⟨he, bel⟩ => ?_
  subst he
  exact ⟨_, rfl, _, _, _, [], _, [], hW', trodAll_mk1 (shut_bool (by kernel_rfl) _), (trodAll_cons_mk (back (by kernel_rfl) (of_decide_eq_true (by kernel_rfl)) h0 bel) (trodAll_cons_mk (back (by kernel_rfl) (of_decide_eq_true (by kernel_rfl)) h1 bel) (trodAll_cons_mk (back (by kernel_rfl) (of_decide_eq_true (by kernel_rfl)) h2 bel) trodAll_mk0))), rfl, bel.frame _, fun h => by cases h⟩
theorem over : Rows.stabEndsRow.holds Tryd.pinned (OpenSpec.ofChange Rows.stabEndsSpec) :=
  OpenClaim.holds_of_wide 5 Tryd.f5 rfl rfl rfl rfl rfl rfl rfl ⟨rfl, rfl, rfl, rfl, rfl⟩ rfl rfl rfl rfl rfl (by kernel_rfl) Tryd.func5 (by kernel_rfl)
    (of_decide_eq_true (by kernel_rfl)) (by unfold Func.isWrapper; first | (rw [if_pos (by decide +kernel)]; kernel_rfl) | (rw [if_neg (by decide +kernel)]; exact ⟨rfl, rfl⟩))
    (fun os started H enc _ => lifted os started H enc)
theorem proved : Rows.StabEndsCardSaid :=
  Claim7.holds_tied_plain_at .later [] [.data] true Rows.stabEndsCard.stood.harness false
    over (fun _ h => by cases h) (by kernel_rfl) (fun _ h => by cases h) stabEnds_row_tie rfl ⟨rfl, rfl⟩ (by kernel_rfl) rfl
    (fun f fn hf hfn => by
      obtain rfl : f = 5 := Option.some.inj ((show Tryd.prog.funcNamed "garland/garlandlaw14.StabEnds" = some 5 by kernel_rfl).symm.trans hf) |>.symm
      obtain rfl : fn = Tryd.f5 := (Option.some.inj (Tryd.func5.symm.trans hfn)).symm
      exact ⟨by kernel_rfl, fun j t ht => by
        have hall : (Tryd.f5.params.toList.all fun u => !Tryd.prog.wantsStandIn u) = true := by kernel_rfl
        exact (show Tryd.prog.wantsStandIn t = false by simpa using List.all_eq_true.1 hall t (by simpa using Array.mem_of_getElem? ht))⟩)
    (by kernel_rfl)
end Go.Proofs.YtfifgiopdbdeoaaDoor.Lite.stabEnds
namespace Go.Proofs.YtfifgiopdbdeoaaDoor
/-- The card. -/
theorem stabEnds_holds : Rows.StabEndsCardSaid := Lite.stabEnds.proved
#print axioms stabEnds_holds
end Go.Proofs.YtfifgiopdbdeoaaDoor
end
