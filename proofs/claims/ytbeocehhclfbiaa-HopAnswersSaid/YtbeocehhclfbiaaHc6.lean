/- HopAnswers: whatever the view and the message: the law is true, and its arguments stay as they were. No condition but those of the row itself. -/
import Derived.Test.YtbeocehhclfbiaaRows
import Derived.Test.YtbeocehhclfbiaaHc5
set_option linter.unusedSimpArgs false
set_option linter.unusedVariables false
namespace Go.Proofs.Ytbeocehhclfbiaa.Lite
open Go
attribute [local simp] WL_of WL_nil WL_blk WL_skip WL_label WL_exit WL_goto WL_seq WL_block WL_cond WL_reg WL_ret WJ_nil WJ_ex WJ_gt WJ_rt WJ_exb WJ_gtb WJ_rtb WLO_nil WLO_call WO_mv WO_pick WO_new WO_box WO_ld WO_ldn WO_st WO_off WO_ixa WO_ixs WO_fld WO_fldn WO_ixv WO_ixvn WO_ixb WO_bin WO_eqb WO_isn WO_eqs WO_not WO_conv WO_mkf WO_bld WO_bls WO_sla WO_sls WO_sl0 WO_len WO_app WO_mnx WO_ext WO_nilc wants_none wants_some wantv_b wantv_t WLV_true WLV_false WLC_false WLB_true WLB_false evX_t evX_c evXs_nil evXs_cons look_put look_putN look_cons look_arg0 look_arg stepK binOpA intOp strOp evRes oneOf outs gc toDV AV.dat? I Bo av_s List.map List.append_nil getO putO AV.cellsOf bne WL_dreg WLP_nil WLP_call WP_mv WP_pick WP_new WP_box WP_ld WP_ldn WP_off WP_ixa WP_ixs WP_fld WP_fldn WP_ixv WP_ixvn WP_ixb WP_bin WP_eqb WP_isn WP_eqs WP_not WP_conv WP_mkf WP_bld WP_bls WP_sla WP_sls WP_sl0 WP_len WP_app WP_mnx WP_ext WP_nilc WLPV_true WLPV_false WLPC_false WLC_tells WLPC_tells padH onNm onEx List.getElem?_cons_zero List.getElem?_cons_succ List.getElem?_nil restrict AV.lows lay AV.isCell lowObj AObj.lows WJ_nm AV.lows.go WL_scope onGt_rt onGt_nm onGt_ex WL_sreg WP_st preSt eraseB List.set_cons_zero List.set_cons_succ

class AsM (xs : List AV) (m : outParam MW) : Prop where
  d : dats? xs = some m.dats
  l : ∀ N M, AV.lows.go N M xs = true
  t : (AV.agg xs).tied = false
instance (m : MW) : AsM m.cs m := ⟨rfl, fun _ _ => rfl, rfl⟩
instance (kind call src dest key : Int) (slow fin : Bool) (place pred : Int) (lst : List Int) (ikey : List UInt8) (ival iver : Int) (gone : Bool) (code : Int) [h : Fact (lst.length < 9223372036854775808)] :
    AsM [.d (.int .u8 kind), .d (.int .i64 call), .d (.int .i64 src), .d (.int .i64 dest), .d (.int .i64 key), .d (.bool slow), .d (.bool fin), .d (.int .i64 place), .d (.int .i64 pred), .d (.sl (rowsI lst)), .d (.str ikey), .d (.int .i64 ival), .d (.int .i64 iver), .d (.bool gone), .d (.int .i64 code)]
      ⟨kind, call, src, dest, key, slow, fin, place, pred, lst, ikey, ival, iver, gone, code, h.out⟩ := ⟨rfl, fun _ _ => rfl, rfl⟩
instance (kind call src dest key : Int) (slow fin : Bool) (place pred : Int) (ikey : List UInt8) (ival iver : Int) (gone : Bool) (code : Int) :
    AsM [.d (.int .u8 kind), .d (.int .i64 call), .d (.int .i64 src), .d (.int .i64 dest), .d (.int .i64 key), .d (.bool slow), .d (.bool fin), .d (.int .i64 place), .d (.int .i64 pred), .nils, .d (.str ikey), .d (.int .i64 ival), .d (.int .i64 iver), .d (.bool gone), .d (.int .i64 code)]
      ⟨kind, call, src, dest, key, slow, fin, place, pred, [], ikey, ival, iver, gone, code, by decide⟩ := ⟨rfl, fun _ _ => rfl, rfl⟩
theorem eq_item (s : List UInt8) (a b : Int) (g : Bool) (s' : List UInt8) (a' b' : Int) (g' : Bool) : eqCells [2, 0, 0, 1] [.d (.str s), .d (.int .i64 a), .d (.int .i64 b), .d (.bool g)] [.d (.str s'), .d (.int .i64 a'), .d (.int .i64 b'), .d (.bool g')] = some (s == s' && a == a' && b == b' && g == g') := by
  cases h1 : s == s' <;> cases h2 : a == a' <;> cases h3 : b == b' <;> cases h4 : g == g' <;> simp only [eqCells, eqCell, h1, h2, h3, h4, if_true] <;> rfl
theorem asM_to {xs : List AV} {m : MW} (h : AsM xs m) (hp : Heap) : toDV hp (.agg xs) = some (Mg m) := by simp [toDV, h.d, Mg]

def MW.same (a b : MW) : Bool := a.kind == b.kind && a.call == b.call && a.src == b.src && a.dest == b.dest && (a.key == b.key && a.slow == b.slow && a.fin == b.fin && a.place == b.place) && a.pred == b.pred && (a.ikey == b.ikey && a.ival == b.ival && a.iver == b.iver && a.gone == b.gone) && a.code == b.code && a.lst == b.lst
noncomputable def same_F := orcOf (fun p : MW × MW => [Mg p.1, Mg p.2]) (fun _ => True) (fun p => [Bo (p.1.same p.2)])
instance (xs ys : List AV) (a b : MW) [ha : AsM xs a] [hb : AsM ys b] : Tells same_F [.agg xs, .agg ys] (.d (.bool (a.same b))) :=
  ⟨[Mg a, Mg b], [Bo (a.same b)], fun h => by simp only [toDVs, asM_to ha, asM_to hb], orcOf_eq (enc := fun p : MW × MW => [Mg p.1, Mg p.2]) (x := (a, b)) trivial (fun y h => by
    simp only [Mg, List.cons.injEq, DV.g.injEq, and_true] at h
    exact Prod.ext (MW.inj h.1) (MW.inj h.2)), rfl, by simp [DV.flat, Dat.flat, Bo], fun N M => by simp [AV.lows, ha.l, hb.l]⟩
instance (m : MW) : Fact (m.lst.length < 9223372036854775808) := ⟨m.hl⟩
noncomputable def TSA : Tbl := tbl [(97, slices_Equal_F)]
theorem TSA_ok : TblOK Try.prog TSA := tbl_ok (by
  simp only [List.mem_cons, List.not_mem_nil, or_false]
  rintro p (rfl)
  · exact slices_Equal)
instance : Has TSA 97 slices_Equal_F := ⟨rfl⟩

theorem msg_Same : Pure Try.prog 80 same_F := by
  refine con TSA_ok rfl rfl fun ⟨a, b⟩ _ => ⟨rfl, ?_⟩
  simp [cf80, Mg_av, -getElem?_pos, MW.cs, eq_item, MW.same]
  all_goals (try (first | refine WLV_splitN (fun hs => ?_) (fun hs => ?_) | refine WLC_splitN (fun hs => ?_) (fun hs => ?_) | refine WLB_splitN (fun hs => ?_) (fun hs => ?_) | refine WLPV_splitN (fun hs => ?_) (fun hs => ?_) | refine WLPC_splitN (fun hs => ?_) (fun hs => ?_) | refine WLPV_split (fun hs => ?_) (fun hs => ?_) | refine WLPC_split (fun hs => ?_) (fun hs => ?_) | refine WLV_split (fun hs => ?_) (fun hs => ?_) | refine WLC_split (fun hs => ?_) (fun hs => ?_) | refine WLB_split (fun hs => ?_) (fun hs => ?_)))
  all_goals (try (have hs' := hs; simp at hs'))
  all_goals (try simp [*, -getElem?_pos, eq_item])
  all_goals (try (first | refine WLV_splitN (fun hs => ?_) (fun hs => ?_) | refine WLC_splitN (fun hs => ?_) (fun hs => ?_) | refine WLB_splitN (fun hs => ?_) (fun hs => ?_) | refine WLPV_splitN (fun hs => ?_) (fun hs => ?_) | refine WLPC_splitN (fun hs => ?_) (fun hs => ?_) | refine WLPV_split (fun hs => ?_) (fun hs => ?_) | refine WLPC_split (fun hs => ?_) (fun hs => ?_) | refine WLV_split (fun hs => ?_) (fun hs => ?_) | refine WLC_split (fun hs => ?_) (fun hs => ?_) | refine WLB_split (fun hs => ?_) (fun hs => ?_)))
  all_goals (try (have hs' := hs; simp at hs'))
  all_goals (try simp [*, -getElem?_pos, eq_item])
  all_goals (try (first | refine WLV_splitN (fun hs => ?_) (fun hs => ?_) | refine WLC_splitN (fun hs => ?_) (fun hs => ?_) | refine WLB_splitN (fun hs => ?_) (fun hs => ?_) | refine WLPV_splitN (fun hs => ?_) (fun hs => ?_) | refine WLPC_splitN (fun hs => ?_) (fun hs => ?_) | refine WLPV_split (fun hs => ?_) (fun hs => ?_) | refine WLPC_split (fun hs => ?_) (fun hs => ?_) | refine WLV_split (fun hs => ?_) (fun hs => ?_) | refine WLC_split (fun hs => ?_) (fun hs => ?_) | refine WLB_split (fun hs => ?_) (fun hs => ?_)))
  all_goals (try (have hs' := hs; simp at hs'))
  all_goals (try simp [*, -getElem?_pos, eq_item])
  all_goals (try (first | refine WLV_splitN (fun hs => ?_) (fun hs => ?_) | refine WLC_splitN (fun hs => ?_) (fun hs => ?_) | refine WLB_splitN (fun hs => ?_) (fun hs => ?_) | refine WLPV_splitN (fun hs => ?_) (fun hs => ?_) | refine WLPC_splitN (fun hs => ?_) (fun hs => ?_) | refine WLPV_split (fun hs => ?_) (fun hs => ?_) | refine WLPC_split (fun hs => ?_) (fun hs => ?_) | refine WLV_split (fun hs => ?_) (fun hs => ?_) | refine WLC_split (fun hs => ?_) (fun hs => ?_) | refine WLB_split (fun hs => ?_) (fun hs => ?_)))
  all_goals (try (have hs' := hs; simp at hs'))
  all_goals (try simp [*, -getElem?_pos, eq_item])
  all_goals (try (first | refine WLV_splitN (fun hs => ?_) (fun hs => ?_) | refine WLC_splitN (fun hs => ?_) (fun hs => ?_) | refine WLB_splitN (fun hs => ?_) (fun hs => ?_) | refine WLPV_splitN (fun hs => ?_) (fun hs => ?_) | refine WLPC_splitN (fun hs => ?_) (fun hs => ?_) | refine WLPV_split (fun hs => ?_) (fun hs => ?_) | refine WLPC_split (fun hs => ?_) (fun hs => ?_) | refine WLV_split (fun hs => ?_) (fun hs => ?_) | refine WLC_split (fun hs => ?_) (fun hs => ?_) | refine WLB_split (fun hs => ?_) (fun hs => ?_)))
  all_goals (try (have hs' := hs; simp at hs'))
  all_goals (try simp [*, -getElem?_pos, eq_item])
  all_goals (try (first | refine WLV_splitN (fun hs => ?_) (fun hs => ?_) | refine WLC_splitN (fun hs => ?_) (fun hs => ?_) | refine WLB_splitN (fun hs => ?_) (fun hs => ?_) | refine WLPV_splitN (fun hs => ?_) (fun hs => ?_) | refine WLPC_splitN (fun hs => ?_) (fun hs => ?_) | refine WLPV_split (fun hs => ?_) (fun hs => ?_) | refine WLPC_split (fun hs => ?_) (fun hs => ?_) | refine WLV_split (fun hs => ?_) (fun hs => ?_) | refine WLC_split (fun hs => ?_) (fun hs => ?_) | refine WLB_split (fun hs => ?_) (fun hs => ?_)))
  all_goals (try (have hs' := hs; simp at hs'))
  all_goals (try simp [*, -getElem?_pos, eq_item])
  all_goals (try (first | refine WLV_splitN (fun hs => ?_) (fun hs => ?_) | refine WLC_splitN (fun hs => ?_) (fun hs => ?_) | refine WLB_splitN (fun hs => ?_) (fun hs => ?_) | refine WLPV_splitN (fun hs => ?_) (fun hs => ?_) | refine WLPC_splitN (fun hs => ?_) (fun hs => ?_) | refine WLPV_split (fun hs => ?_) (fun hs => ?_) | refine WLPC_split (fun hs => ?_) (fun hs => ?_) | refine WLV_split (fun hs => ?_) (fun hs => ?_) | refine WLC_split (fun hs => ?_) (fun hs => ?_) | refine WLB_split (fun hs => ?_) (fun hs => ?_)))
  all_goals (try (have hs' := hs; simp at hs'))
  all_goals (try simp [*, -getElem?_pos, eq_item])
  all_goals (try (first | refine WLV_splitN (fun hs => ?_) (fun hs => ?_) | refine WLC_splitN (fun hs => ?_) (fun hs => ?_) | refine WLB_splitN (fun hs => ?_) (fun hs => ?_) | refine WLPV_splitN (fun hs => ?_) (fun hs => ?_) | refine WLPC_splitN (fun hs => ?_) (fun hs => ?_) | refine WLPV_split (fun hs => ?_) (fun hs => ?_) | refine WLPC_split (fun hs => ?_) (fun hs => ?_) | refine WLV_split (fun hs => ?_) (fun hs => ?_) | refine WLC_split (fun hs => ?_) (fun hs => ?_) | refine WLB_split (fun hs => ?_) (fun hs => ?_)))
  all_goals (try (have hs' := hs; simp at hs'))
  all_goals (try simp [*, -getElem?_pos, eq_item])
  all_goals (try (first | refine WLV_splitN (fun hs => ?_) (fun hs => ?_) | refine WLC_splitN (fun hs => ?_) (fun hs => ?_) | refine WLB_splitN (fun hs => ?_) (fun hs => ?_) | refine WLPV_splitN (fun hs => ?_) (fun hs => ?_) | refine WLPC_splitN (fun hs => ?_) (fun hs => ?_) | refine WLPV_split (fun hs => ?_) (fun hs => ?_) | refine WLPC_split (fun hs => ?_) (fun hs => ?_) | refine WLV_split (fun hs => ?_) (fun hs => ?_) | refine WLC_split (fun hs => ?_) (fun hs => ?_) | refine WLB_split (fun hs => ?_) (fun hs => ?_)))
  all_goals (try (have hs' := hs; simp at hs'))
  all_goals (try simp [*, -getElem?_pos, eq_item])
  all_goals (try (first | refine WLV_splitN (fun hs => ?_) (fun hs => ?_) | refine WLC_splitN (fun hs => ?_) (fun hs => ?_) | refine WLB_splitN (fun hs => ?_) (fun hs => ?_) | refine WLPV_splitN (fun hs => ?_) (fun hs => ?_) | refine WLPC_splitN (fun hs => ?_) (fun hs => ?_) | refine WLPV_split (fun hs => ?_) (fun hs => ?_) | refine WLPC_split (fun hs => ?_) (fun hs => ?_) | refine WLV_split (fun hs => ?_) (fun hs => ?_) | refine WLC_split (fun hs => ?_) (fun hs => ?_) | refine WLB_split (fun hs => ?_) (fun hs => ?_)))
  all_goals (try (have hs' := hs; simp at hs'))
  all_goals (try simp [*, -getElem?_pos, eq_item])
  all_goals (try (first | refine WLV_splitN (fun hs => ?_) (fun hs => ?_) | refine WLC_splitN (fun hs => ?_) (fun hs => ?_) | refine WLB_splitN (fun hs => ?_) (fun hs => ?_) | refine WLPV_splitN (fun hs => ?_) (fun hs => ?_) | refine WLPC_splitN (fun hs => ?_) (fun hs => ?_) | refine WLPV_split (fun hs => ?_) (fun hs => ?_) | refine WLPC_split (fun hs => ?_) (fun hs => ?_) | refine WLV_split (fun hs => ?_) (fun hs => ?_) | refine WLC_split (fun hs => ?_) (fun hs => ?_) | refine WLB_split (fun hs => ?_) (fun hs => ?_)))
  all_goals (try (have hs' := hs; simp at hs'))
  all_goals (try simp [*, -getElem?_pos, eq_item])
noncomputable abbrev msg_Same_F := same_F
end Go.Proofs.Ytbeocehhclfbiaa.Lite
namespace Go.Proofs.Ytbeocehhclfbiaa.Lite
open Go
attribute [local simp] WL_of WL_nil WL_blk WL_skip WL_label WL_exit WL_goto WL_seq WL_block WL_cond WL_reg WL_ret WJ_nil WJ_ex WJ_gt WJ_rt WJ_exb WJ_gtb WJ_rtb WLO_nil WLO_call WO_mv WO_pick WO_new WO_box WO_ld WO_ldn WO_st WO_off WO_ixa WO_ixs WO_fld WO_fldn WO_ixv WO_ixvn WO_ixb WO_bin WO_eqb WO_isn WO_eqs WO_not WO_conv WO_mkf WO_bld WO_bls WO_sla WO_sls WO_sl0 WO_len WO_app WO_mnx WO_ext WO_nilc wants_none wants_some wantv_b wantv_t WLV_true WLV_false WLC_false WLB_true WLB_false evX_t evX_c evXs_nil evXs_cons look_put look_putN look_cons look_arg0 look_arg stepK binOpA intOp strOp evRes oneOf outs gc toDV AV.dat? I Bo av_s List.map List.append_nil getO putO AV.cellsOf bne WL_dreg WLP_nil WLP_call WP_mv WP_pick WP_new WP_box WP_ld WP_ldn WP_off WP_ixa WP_ixs WP_fld WP_fldn WP_ixv WP_ixvn WP_ixb WP_bin WP_eqb WP_isn WP_eqs WP_not WP_conv WP_mkf WP_bld WP_bls WP_sla WP_sls WP_sl0 WP_len WP_app WP_mnx WP_ext WP_nilc WLPV_true WLPV_false WLPC_false WLC_tells WLPC_tells padH onNm onEx List.getElem?_cons_zero List.getElem?_cons_succ List.getElem?_nil restrict AV.lows lay AV.isCell lowObj AObj.lows WJ_nm AV.lows.go WL_scope onGt_rt onGt_nm onGt_ex WL_sreg WP_st preSt eraseB List.set_cons_zero List.set_cons_succ

def L19 : CCode := (.loop [2, 3, 5] (.seq (.seq (.reg (⟨(some 13), .mv (.t 5), none⟩ ::
    ⟨(some 14), .off 9 (.t 2), none⟩ ::
    ⟨(some 15), .ld (.t 14), none⟩ ::
    ⟨(some 16), .len false (.t 15), none⟩ ::
    ⟨(some 17), .bin .lss (.t 13) (.t 16), none⟩ ::
    []))
  (.cond (.t 17) .skip (.exit 0)))
  (.seq (.block 1 (.seq (.dreg (⟨(some 20), .off 9 (.t 2), none⟩ ::
    ⟨(some 21), .ld (.t 20), none⟩ ::
    ⟨(some 22), .mv (.t 5), none⟩ ::
    ⟨(some 23), .ixs 1 (.t 21) (.t 22), none⟩ ::
    ⟨(some 24), .ld (.t 23), none⟩ ::
    ⟨(some 25), .off 9 (.t 3), none⟩ ::
    ⟨(some 26), .ld (.t 25), none⟩ ::
    ⟨(some 27), .mv (.t 5), none⟩ ::
    ⟨(some 28), .ixs 1 (.t 26) (.t 27), none⟩ ::
    ⟨(some 29), .ld (.t 28), none⟩ ::
    ⟨(some 30), .bin .neq (.t 24) (.t 29), none⟩ ::
    []) ([]))
  (.cond (.t 30) (.seq (.reg (⟨(some 4), .mv (.c (.d (.bool false))), none⟩ ::
    []))
  .ret) .skip)))
  (.reg (⟨(some 18), .mv (.t 5), none⟩ ::
    ⟨(some 19), .bin .add (.t 18) (.c (.d (.int .i64 1))), none⟩ ::
    ⟨(some 5), .mv (.t 19), none⟩ ::
    [])))))
theorem L19_eq : L19 = .loop [2, 3, 5] (.seq (.seq (.reg (⟨(some 13), .mv (.t 5), none⟩ ::
    ⟨(some 14), .off 9 (.t 2), none⟩ ::
    ⟨(some 15), .ld (.t 14), none⟩ ::
    ⟨(some 16), .len false (.t 15), none⟩ ::
    ⟨(some 17), .bin .lss (.t 13) (.t 16), none⟩ ::
    []))
  (.cond (.t 17) .skip (.exit 0)))
  (.seq (.block 1 (.seq (.dreg (⟨(some 20), .off 9 (.t 2), none⟩ ::
    ⟨(some 21), .ld (.t 20), none⟩ ::
    ⟨(some 22), .mv (.t 5), none⟩ ::
    ⟨(some 23), .ixs 1 (.t 21) (.t 22), none⟩ ::
    ⟨(some 24), .ld (.t 23), none⟩ ::
    ⟨(some 25), .off 9 (.t 3), none⟩ ::
    ⟨(some 26), .ld (.t 25), none⟩ ::
    ⟨(some 27), .mv (.t 5), none⟩ ::
    ⟨(some 28), .ixs 1 (.t 26) (.t 27), none⟩ ::
    ⟨(some 29), .ld (.t 28), none⟩ ::
    ⟨(some 30), .bin .neq (.t 24) (.t 29), none⟩ ::
    []) ([]))
  (.cond (.t 30) (.seq (.reg (⟨(some 4), .mv (.c (.d (.bool false))), none⟩ ::
    []))
  .ret) .skip)))
  (.reg (⟨(some 18), .mv (.t 5), none⟩ ::
    ⟨(some 19), .bin .add (.t 18) (.c (.d (.int .i64 1))), none⟩ ::
    ⟨(some 5), .mv (.t 19), none⟩ ::
    [])))) := rfl
def hp19 (a b : MW) : Heap := [some (.cells a.cs), some (.cells b.cs)]
theorem mcs_9 (m : MW) : m.cs[9]? = some (vsI m.lst) := rfl
theorem same19_loop (a b : MW) (hlr : a.lst.length = b.lst.length) : ∀ (k i : Nat), a.lst.length - i = k → i ≤ a.lst.length → ∀ (env : Env), look env 2 = some (.ptr 0 0) → look env 3 = some (.ptr 1 0) → look env 5 = some (.d (.int .i64 i)) →
    ∀ (Q : Ex → Env → St → Prop), (a.lst.drop i = b.lst.drop i → ∀ env', look env' 2 = some (.ptr 0 0) → look env' 3 = some (.ptr 1 0) → Q (.ex 0) env' ⟨hp19 a b, []⟩) → (a.lst.drop i ≠ b.lst.drop i → ∀ env' h', look env' 4 = some (.d (.bool false)) → Q .rt env' ⟨h', []⟩) → W (tbl []) ⟨[], 0⟩ L19 env ⟨hp19 a b, []⟩ Q := by
  have hl := a.hl
  intro k
  induction k with
  | zero =>
    intro i hk hi env h2 h3 h5 Q hQ1 hQ2
    have hlt : ¬ i < a.lst.length := by omega
    have hlt' : ¬ i < b.lst.length := by omega
    rw [L19_eq, W_loop]
    simp [-getElem?_pos, hp19, h2, h3, h5, mcs_9, stepK.lenA, rowsI_length, hlt, hlt']
    refine hQ1 (by rw [List.drop_eq_nil_of_le (by omega), List.drop_eq_nil_of_le (by omega)]) _ ?_ ?_ <;> simp [-getElem?_pos, h2, h3]
  | succ k ih =>
    intro i hk hi env h2 h3 h5 Q hQ1 hQ2
    have hlt : i < a.lst.length := by omega
    have hlt' : i < b.lst.length := by omega
    obtain ⟨m, hn⟩ : ∃ m, a.lst[i]? = some m := ⟨_, List.getElem?_eq_getElem hlt⟩
    obtain ⟨m2, hn2⟩ : ∃ m, b.lst[i]? = some m := ⟨_, List.getElem?_eq_getElem (by omega)⟩
    have hd : a.lst.drop i = m :: a.lst.drop (i + 1) := by rw [List.drop_eq_getElem_cons hlt]; congr 1; exact (List.getElem?_eq_some_iff.1 hn).2
    have hd2 : b.lst.drop i = m2 :: b.lst.drop (i + 1) := by rw [List.drop_eq_getElem_cons (by omega)]; congr 1; exact (List.getElem?_eq_some_iff.1 hn2).2
    have hw := wrapN1 i (by omega)
    rw [L19_eq, W_loop]
    simp [-getElem?_pos, hp19, h2, h3, h5, mcs_9, stepK.lenA, rowsI_length, hlt, hlt', rowsI_get, hn, hn2, mcs_all, mcs_lows, -Int.natCast_add]
    all_goals (try (first | refine WLV_splitN (fun hs => ?_) (fun hs => ?_) | refine WLC_splitN (fun hs => ?_) (fun hs => ?_) | refine WLB_splitN (fun hs => ?_) (fun hs => ?_) | refine WLPV_splitN (fun hs => ?_) (fun hs => ?_) | refine WLPC_splitN (fun hs => ?_) (fun hs => ?_) | refine WLPV_split (fun hs => ?_) (fun hs => ?_) | refine WLPC_split (fun hs => ?_) (fun hs => ?_) | refine WLV_split (fun hs => ?_) (fun hs => ?_) | refine WLC_split (fun hs => ?_) (fun hs => ?_) | refine WLB_split (fun hs => ?_) (fun hs => ?_)))
    all_goals (try (have hs' := hs; simp at hs'))
    all_goals (try simp [*, -getElem?_pos, hp19, h2, h3, h5, mcs_9, mcs_all, mcs_lows, -Int.natCast_add])
    all_goals first
      | (refine hQ2 (by rw [hd, hd2]; simp [*]) _ _ ?_; simp [-getElem?_pos]; done)
      | (refine (WL_of (c := L19)).1 (ih (i + 1) (by omega) (by omega) _ ?_ ?_ ?_ Q (fun h => hQ1 ?_) (fun h => hQ2 ?_))
         · simp [-getElem?_pos, h2]
         · simp [-getElem?_pos, h3]
         · simp [-getElem?_pos, hw, -Int.natCast_add]
         · rw [hd, hd2, h]; simp [*]
         · rw [hd, hd2]; simp [*])
theorem mcs_4 (m : MW) : m.cs[4]? = some (.d (.int .i64 m.key)) := rfl
theorem mcs_5 (m : MW) : m.cs[5]? = some (.d (.bool m.slow)) := rfl
theorem mcs_6 (m : MW) : m.cs[6]? = some (.d (.bool m.fin)) := rfl
theorem mcs_7 (m : MW) : m.cs[7]? = some (.d (.int .i64 m.place)) := rfl
theorem mcs_8 (m : MW) : m.cs[8]? = some (.d (.int .i64 m.pred)) := rfl
theorem mcs_14 (m : MW) : m.cs[14]? = some (.d (.int .i64 m.code)) := rfl
theorem mcs_it (m : MW) : (m.cs.drop 10).take 4 = [.d (.str m.ikey), .d (.int .i64 m.ival), .d (.int .i64 m.iver), .d (.bool m.gone)] := rfl
theorem garlandref06_Same : Pure Try.prog 19 same_F := by
  refine con (T := tbl []) (tbl_ok (by simp)) rfl rfl fun ⟨a, b⟩ _ => ⟨rfl, ?_⟩
  by_cases hlr : a.lst.length = b.lst.length
  · simp [cf19, Mg_av, -getElem?_pos, mcs_9, stepK.lenA, rowsI_length, hlr]
    rw [WL_code]
    refine same19_loop a b hlr a.lst.length 0 (by omega) (by omega) _ ?_ ?_ ?_ _ (fun h env' h2 h3 => ?_) (fun h env' h' h4 => ?_)
    all_goals (try (simp [-getElem?_pos]; done))
    · simp only [List.drop_zero] at h
      have e : (a.lst == b.lst) = true := by rw [h]; simp
      simp [-getElem?_pos, hp19, h2, h3, mcs_0, mcs_1, mcs_2, mcs_3, mcs_4, mcs_5, mcs_6, mcs_7, mcs_8, mcs_14, mcs_len, mcs_it, eq_item, MW.same, e]
      all_goals (try (first | refine WLV_splitN (fun hs => ?_) (fun hs => ?_) | refine WLC_splitN (fun hs => ?_) (fun hs => ?_) | refine WLB_splitN (fun hs => ?_) (fun hs => ?_) | refine WLPV_splitN (fun hs => ?_) (fun hs => ?_) | refine WLPC_splitN (fun hs => ?_) (fun hs => ?_) | refine WLPV_split (fun hs => ?_) (fun hs => ?_) | refine WLPC_split (fun hs => ?_) (fun hs => ?_) | refine WLV_split (fun hs => ?_) (fun hs => ?_) | refine WLC_split (fun hs => ?_) (fun hs => ?_) | refine WLB_split (fun hs => ?_) (fun hs => ?_)))
      all_goals (try (have hs' := hs; simp at hs'))
      all_goals (try simp [*, -getElem?_pos, mcs_0, mcs_1, mcs_2, mcs_3, mcs_4, mcs_5, mcs_6, mcs_7, mcs_8, mcs_14, mcs_len, mcs_it, eq_item])
      all_goals (try (first | refine WLV_splitN (fun hs => ?_) (fun hs => ?_) | refine WLC_splitN (fun hs => ?_) (fun hs => ?_) | refine WLB_splitN (fun hs => ?_) (fun hs => ?_) | refine WLPV_splitN (fun hs => ?_) (fun hs => ?_) | refine WLPC_splitN (fun hs => ?_) (fun hs => ?_) | refine WLPV_split (fun hs => ?_) (fun hs => ?_) | refine WLPC_split (fun hs => ?_) (fun hs => ?_) | refine WLV_split (fun hs => ?_) (fun hs => ?_) | refine WLC_split (fun hs => ?_) (fun hs => ?_) | refine WLB_split (fun hs => ?_) (fun hs => ?_)))
      all_goals (try (have hs' := hs; simp at hs'))
      all_goals (try simp [*, -getElem?_pos, mcs_0, mcs_1, mcs_2, mcs_3, mcs_4, mcs_5, mcs_6, mcs_7, mcs_8, mcs_14, mcs_len, mcs_it, eq_item])
      all_goals (try (first | refine WLV_splitN (fun hs => ?_) (fun hs => ?_) | refine WLC_splitN (fun hs => ?_) (fun hs => ?_) | refine WLB_splitN (fun hs => ?_) (fun hs => ?_) | refine WLPV_splitN (fun hs => ?_) (fun hs => ?_) | refine WLPC_splitN (fun hs => ?_) (fun hs => ?_) | refine WLPV_split (fun hs => ?_) (fun hs => ?_) | refine WLPC_split (fun hs => ?_) (fun hs => ?_) | refine WLV_split (fun hs => ?_) (fun hs => ?_) | refine WLC_split (fun hs => ?_) (fun hs => ?_) | refine WLB_split (fun hs => ?_) (fun hs => ?_)))
      all_goals (try (have hs' := hs; simp at hs'))
      all_goals (try simp [*, -getElem?_pos, mcs_0, mcs_1, mcs_2, mcs_3, mcs_4, mcs_5, mcs_6, mcs_7, mcs_8, mcs_14, mcs_len, mcs_it, eq_item])
      all_goals (try (first | refine WLV_splitN (fun hs => ?_) (fun hs => ?_) | refine WLC_splitN (fun hs => ?_) (fun hs => ?_) | refine WLB_splitN (fun hs => ?_) (fun hs => ?_) | refine WLPV_splitN (fun hs => ?_) (fun hs => ?_) | refine WLPC_splitN (fun hs => ?_) (fun hs => ?_) | refine WLPV_split (fun hs => ?_) (fun hs => ?_) | refine WLPC_split (fun hs => ?_) (fun hs => ?_) | refine WLV_split (fun hs => ?_) (fun hs => ?_) | refine WLC_split (fun hs => ?_) (fun hs => ?_) | refine WLB_split (fun hs => ?_) (fun hs => ?_)))
      all_goals (try (have hs' := hs; simp at hs'))
      all_goals (try simp [*, -getElem?_pos, mcs_0, mcs_1, mcs_2, mcs_3, mcs_4, mcs_5, mcs_6, mcs_7, mcs_8, mcs_14, mcs_len, mcs_it, eq_item])
      all_goals (try (first | refine WLV_splitN (fun hs => ?_) (fun hs => ?_) | refine WLC_splitN (fun hs => ?_) (fun hs => ?_) | refine WLB_splitN (fun hs => ?_) (fun hs => ?_) | refine WLPV_splitN (fun hs => ?_) (fun hs => ?_) | refine WLPC_splitN (fun hs => ?_) (fun hs => ?_) | refine WLPV_split (fun hs => ?_) (fun hs => ?_) | refine WLPC_split (fun hs => ?_) (fun hs => ?_) | refine WLV_split (fun hs => ?_) (fun hs => ?_) | refine WLC_split (fun hs => ?_) (fun hs => ?_) | refine WLB_split (fun hs => ?_) (fun hs => ?_)))
      all_goals (try (have hs' := hs; simp at hs'))
      all_goals (try simp [*, -getElem?_pos, mcs_0, mcs_1, mcs_2, mcs_3, mcs_4, mcs_5, mcs_6, mcs_7, mcs_8, mcs_14, mcs_len, mcs_it, eq_item])
      all_goals (try (first | refine WLV_splitN (fun hs => ?_) (fun hs => ?_) | refine WLC_splitN (fun hs => ?_) (fun hs => ?_) | refine WLB_splitN (fun hs => ?_) (fun hs => ?_) | refine WLPV_splitN (fun hs => ?_) (fun hs => ?_) | refine WLPC_splitN (fun hs => ?_) (fun hs => ?_) | refine WLPV_split (fun hs => ?_) (fun hs => ?_) | refine WLPC_split (fun hs => ?_) (fun hs => ?_) | refine WLV_split (fun hs => ?_) (fun hs => ?_) | refine WLC_split (fun hs => ?_) (fun hs => ?_) | refine WLB_split (fun hs => ?_) (fun hs => ?_)))
      all_goals (try (have hs' := hs; simp at hs'))
      all_goals (try simp [*, -getElem?_pos, mcs_0, mcs_1, mcs_2, mcs_3, mcs_4, mcs_5, mcs_6, mcs_7, mcs_8, mcs_14, mcs_len, mcs_it, eq_item])
      all_goals (try (first | refine WLV_splitN (fun hs => ?_) (fun hs => ?_) | refine WLC_splitN (fun hs => ?_) (fun hs => ?_) | refine WLB_splitN (fun hs => ?_) (fun hs => ?_) | refine WLPV_splitN (fun hs => ?_) (fun hs => ?_) | refine WLPC_splitN (fun hs => ?_) (fun hs => ?_) | refine WLPV_split (fun hs => ?_) (fun hs => ?_) | refine WLPC_split (fun hs => ?_) (fun hs => ?_) | refine WLV_split (fun hs => ?_) (fun hs => ?_) | refine WLC_split (fun hs => ?_) (fun hs => ?_) | refine WLB_split (fun hs => ?_) (fun hs => ?_)))
      all_goals (try (have hs' := hs; simp at hs'))
      all_goals (try simp [*, -getElem?_pos, mcs_0, mcs_1, mcs_2, mcs_3, mcs_4, mcs_5, mcs_6, mcs_7, mcs_8, mcs_14, mcs_len, mcs_it, eq_item])
      all_goals (try (first | refine WLV_splitN (fun hs => ?_) (fun hs => ?_) | refine WLC_splitN (fun hs => ?_) (fun hs => ?_) | refine WLB_splitN (fun hs => ?_) (fun hs => ?_) | refine WLPV_splitN (fun hs => ?_) (fun hs => ?_) | refine WLPC_splitN (fun hs => ?_) (fun hs => ?_) | refine WLPV_split (fun hs => ?_) (fun hs => ?_) | refine WLPC_split (fun hs => ?_) (fun hs => ?_) | refine WLV_split (fun hs => ?_) (fun hs => ?_) | refine WLC_split (fun hs => ?_) (fun hs => ?_) | refine WLB_split (fun hs => ?_) (fun hs => ?_)))
      all_goals (try (have hs' := hs; simp at hs'))
      all_goals (try simp [*, -getElem?_pos, mcs_0, mcs_1, mcs_2, mcs_3, mcs_4, mcs_5, mcs_6, mcs_7, mcs_8, mcs_14, mcs_len, mcs_it, eq_item])
      all_goals (try (first | refine WLV_splitN (fun hs => ?_) (fun hs => ?_) | refine WLC_splitN (fun hs => ?_) (fun hs => ?_) | refine WLB_splitN (fun hs => ?_) (fun hs => ?_) | refine WLPV_splitN (fun hs => ?_) (fun hs => ?_) | refine WLPC_splitN (fun hs => ?_) (fun hs => ?_) | refine WLPV_split (fun hs => ?_) (fun hs => ?_) | refine WLPC_split (fun hs => ?_) (fun hs => ?_) | refine WLV_split (fun hs => ?_) (fun hs => ?_) | refine WLC_split (fun hs => ?_) (fun hs => ?_) | refine WLB_split (fun hs => ?_) (fun hs => ?_)))
      all_goals (try (have hs' := hs; simp at hs'))
      all_goals (try simp [*, -getElem?_pos, mcs_0, mcs_1, mcs_2, mcs_3, mcs_4, mcs_5, mcs_6, mcs_7, mcs_8, mcs_14, mcs_len, mcs_it, eq_item])
      all_goals (try (first | refine WLV_splitN (fun hs => ?_) (fun hs => ?_) | refine WLC_splitN (fun hs => ?_) (fun hs => ?_) | refine WLB_splitN (fun hs => ?_) (fun hs => ?_) | refine WLPV_splitN (fun hs => ?_) (fun hs => ?_) | refine WLPC_splitN (fun hs => ?_) (fun hs => ?_) | refine WLPV_split (fun hs => ?_) (fun hs => ?_) | refine WLPC_split (fun hs => ?_) (fun hs => ?_) | refine WLV_split (fun hs => ?_) (fun hs => ?_) | refine WLC_split (fun hs => ?_) (fun hs => ?_) | refine WLB_split (fun hs => ?_) (fun hs => ?_)))
      all_goals (try (have hs' := hs; simp at hs'))
      all_goals (try simp [*, -getElem?_pos, mcs_0, mcs_1, mcs_2, mcs_3, mcs_4, mcs_5, mcs_6, mcs_7, mcs_8, mcs_14, mcs_len, mcs_it, eq_item])
      all_goals (try (first | refine WLV_splitN (fun hs => ?_) (fun hs => ?_) | refine WLC_splitN (fun hs => ?_) (fun hs => ?_) | refine WLB_splitN (fun hs => ?_) (fun hs => ?_) | refine WLPV_splitN (fun hs => ?_) (fun hs => ?_) | refine WLPC_splitN (fun hs => ?_) (fun hs => ?_) | refine WLPV_split (fun hs => ?_) (fun hs => ?_) | refine WLPC_split (fun hs => ?_) (fun hs => ?_) | refine WLV_split (fun hs => ?_) (fun hs => ?_) | refine WLC_split (fun hs => ?_) (fun hs => ?_) | refine WLB_split (fun hs => ?_) (fun hs => ?_)))
      all_goals (try (have hs' := hs; simp at hs'))
      all_goals (try simp [*, -getElem?_pos, mcs_0, mcs_1, mcs_2, mcs_3, mcs_4, mcs_5, mcs_6, mcs_7, mcs_8, mcs_14, mcs_len, mcs_it, eq_item])
    · simp only [List.drop_zero] at h
      have e : (a.lst == b.lst) = false := by rw [beq_eq_false_iff_ne]; exact h
      simp [-getElem?_pos, h4, MW.same, e]
  · have e : ((a.lst.length : Int) == (b.lst.length : Int)) = false := by rw [beq_eq_false_iff_ne]; omega
    have e2 : (a.lst == b.lst) = false := by rw [beq_eq_false_iff_ne]; intro h; rw [h] at hlr; exact hlr rfl
    simp [cf19, Mg_av, -getElem?_pos, mcs_9, stepK.lenA, rowsI_length, e, e2, hlr, MW.same]
noncomputable abbrev garlandref06_Same_F := same_F
end Go.Proofs.Ytbeocehhclfbiaa.Lite
namespace Go.Proofs.Ytbeocehhclfbiaa.Lite
open Go
attribute [local simp] WL_of WL_nil WL_blk WL_skip WL_label WL_exit WL_goto WL_seq WL_block WL_cond WL_reg WL_ret WJ_nil WJ_ex WJ_gt WJ_rt WJ_exb WJ_gtb WJ_rtb WLO_nil WLO_call WO_mv WO_pick WO_new WO_box WO_ld WO_ldn WO_st WO_off WO_ixa WO_ixs WO_fld WO_fldn WO_ixv WO_ixvn WO_ixb WO_bin WO_eqb WO_isn WO_eqs WO_not WO_conv WO_mkf WO_bld WO_bls WO_sla WO_sls WO_sl0 WO_len WO_app WO_mnx WO_ext WO_nilc wants_none wants_some wantv_b wantv_t WLV_true WLV_false WLC_false WLB_true WLB_false evX_t evX_c evXs_nil evXs_cons look_put look_putN look_cons look_arg0 look_arg stepK binOpA intOp strOp evRes oneOf outs gc toDV AV.dat? I Bo av_s List.map List.append_nil getO putO AV.cellsOf bne WL_dreg WLP_nil WLP_call WP_mv WP_pick WP_new WP_box WP_ld WP_ldn WP_off WP_ixa WP_ixs WP_fld WP_fldn WP_ixv WP_ixvn WP_ixb WP_bin WP_eqb WP_isn WP_eqs WP_not WP_conv WP_mkf WP_bld WP_bls WP_sla WP_sls WP_sl0 WP_len WP_app WP_mnx WP_ext WP_nilc WLPV_true WLPV_false WLPC_false WLC_tells WLPC_tells padH onNm onEx List.getElem?_cons_zero List.getElem?_cons_succ List.getElem?_nil restrict AV.lows lay AV.isCell lowObj AObj.lows WJ_nm AV.lows.go WL_scope onGt_rt onGt_nm onGt_ex WL_sreg WP_st preSt eraseB List.set_cons_zero List.set_cons_succ

def MW.bare (m : MW) : MW :=
  if m.kind = 4 then { m with key := 0, slow := false }
  else if m.kind = 5 ∨ m.kind = 6 then { m with ikey := [], ival := 0, iver := 0, gone := false }
  else if m.kind = 7 then { m with pred := 0, lst := [], hl := by decide }
  else if m.kind = 10 then { m with place := 0, fin := false }
  else if m.kind = 11 then { m with code := 0 }
  else if m.kind = 12 then { m with code := 0, ikey := [], ival := 0, iver := 0, gone := false }
  else m
noncomputable def bare_F := orcOf (fun m : MW => [Mg m]) (fun _ => True) (fun m => [Mg m.bare])
theorem MW.flat_or (m : MW) (xs : List AV) (h : AsM xs m) {b : Bool} : (!([AV.agg xs] : List AV).any AV.tied || b) = true := by simp [h.t]
instance (xs : List AV) (m : MW) [h : AsM xs m] : Tells bare_F [.agg xs] (.agg m.bare.cs) := ⟨[Mg m], [Mg m.bare], fun hp => by simp only [toDVs, asM_to h], orcM m, rfl, MW.flat_or m xs h, fun N M => by simp [AV.lows, h.l]⟩
theorem kinds (k : Int) : k = 4 ∨ k = 5 ∨ k = 6 ∨ k = 7 ∨ k = 10 ∨ k = 11 ∨ k = 12 ∨ (k ≠ 4 ∧ k ≠ 5 ∧ k ≠ 6 ∧ k ≠ 7 ∧ k ≠ 10 ∧ k ≠ 11 ∧ k ≠ 12) := by omega
theorem garlandref06_bare : Pure Try.prog 64 bare_F := by
  refine con (T := tbl []) (tbl_ok (by simp)) rfl rfl fun m _ => ⟨rfl, ?_⟩
  obtain ⟨kind, call, src, dest, key, slow, fin, place, pred, lst, ikey, ival, iver, gone, code, hl⟩ := m
  rcases kinds kind with h | h | h | h | h | h | h | ⟨h1, h2, h3, h4, h5, h6, h7⟩
  all_goals (try subst h)
  all_goals (try have e1 := beq_eq_false_iff_ne.2 h1)
  all_goals (try have e2 := beq_eq_false_iff_ne.2 h2)
  all_goals (try have e3 := beq_eq_false_iff_ne.2 h3)
  all_goals (try have e4 := beq_eq_false_iff_ne.2 h4)
  all_goals (try have e5 := beq_eq_false_iff_ne.2 h5)
  all_goals (try have e6 := beq_eq_false_iff_ne.2 h6)
  all_goals (try have e7 := beq_eq_false_iff_ne.2 h7)
  all_goals simp [cf64, Mg_av, -getElem?_pos, MW.cs, MW.bare, fillA, *]
  all_goals exact ⟨_, rfl, rfl⟩
noncomputable abbrev garlandref06_bare_F := bare_F
def MW.it (m : MW) : IW := ⟨m.ikey, m.ival, m.iver, m.gone⟩
def MW.fine (m : MW) : Bool :=
  if m.kind = 4 then isPlace m.key
  else if m.kind = 5 then m.it.pair
  else if m.kind = 6 then keyB m.ikey
  else if m.kind = 7 then (m.pred == -1 || isPlace m.pred) && listOk m.lst m.src
  else if m.kind = 10 then isPlace m.place
  else if m.kind = 11 then m.code == 0 || m.code == 200
  else if m.kind = 12 then (m.code == 0 && m.it.pair) || (m.code == 201 && (m.ikey == [] && m.ival == 0 && m.iver == 0 && m.gone == false))
  else true
def MW.has (m : MW) : Bool := if m.kind = 6 then m.it.pair && (m.ival == 0 && m.iver == 0 && m.gone == false) else m.fine
noncomputable def fine_F := orcOf (fun m : MW => [Mg m]) (fun _ => True) (fun m => [Bo m.fine])
noncomputable def has_F := orcOf (fun m : MW => [Mg m]) (fun _ => True) (fun m => [Bo m.has])
instance (xs : List AV) (m : MW) [h : AsM xs m] : Tells fine_F [.agg xs] (.d (.bool m.fine)) := ⟨[Mg m], [Bo m.fine], fun hp => by simp only [toDVs, asM_to h], orcM m, rfl, MW.flat_or m xs h, fun N M => by simp [AV.lows, h.l]⟩
instance (xs : List AV) (m : MW) [h : AsM xs m] : Tells has_F [.agg xs] (.d (.bool m.has)) := ⟨[Mg m], [Bo m.has], fun hp => by simp only [toDVs, asM_to h], orcM m, rfl, MW.flat_or m xs h, fun N M => by simp [AV.lows, h.l]⟩
noncomputable def TMF : Tbl := tbl [(76, msg_place_F), (94, msg_Pair_F), (95, msg_key_F), (96, msg_list_F)]
theorem TMF_ok : TblOK Try.prog TMF := tbl_ok (by
  simp only [List.mem_cons, List.not_mem_nil, or_false]
  rintro p (rfl | rfl | rfl | rfl)
  · exact msg_place
  · exact msg_Pair
  · exact msg_key
  · exact msg_list)
instance : Has TMF 76 msg_place_F := ⟨rfl⟩
instance : Has TMF 94 msg_Pair_F := ⟨rfl⟩
instance : Has TMF 95 msg_key_F := ⟨rfl⟩
instance : Has TMF 96 msg_list_F := ⟨rfl⟩

theorem msg_fine : Pure Try.prog 78 fine_F := by
  refine con TMF_ok rfl rfl fun m _ => ⟨rfl, ?_⟩
  obtain ⟨kind, call, src, dest, key, slow, fin, place, pred, lst, ikey, ival, iver, gone, code, hl⟩ := m
  haveI : Fact (lst.length < 9223372036854775808) := ⟨hl⟩
  rcases kinds kind with h | h | h | h | h | h | h | ⟨h1, h2, h3, h4, h5, h6, h7⟩
  all_goals (try subst h)
  all_goals (try have e1 := beq_eq_false_iff_ne.2 h1)
  all_goals (try have e2 := beq_eq_false_iff_ne.2 h2)
  all_goals (try have e3 := beq_eq_false_iff_ne.2 h3)
  all_goals (try have e4 := beq_eq_false_iff_ne.2 h4)
  all_goals (try have e5 := beq_eq_false_iff_ne.2 h5)
  all_goals (try have e6 := beq_eq_false_iff_ne.2 h6)
  all_goals (try have e7 := beq_eq_false_iff_ne.2 h7)
  all_goals simp [cf78, Mg_av, -getElem?_pos, MW.cs, MW.fine, MW.it, fillA, eq_item, *]
  all_goals (try (first | refine WLV_splitN (fun hs => ?_) (fun hs => ?_) | refine WLC_splitN (fun hs => ?_) (fun hs => ?_) | refine WLB_splitN (fun hs => ?_) (fun hs => ?_) | refine WLPV_splitN (fun hs => ?_) (fun hs => ?_) | refine WLPC_splitN (fun hs => ?_) (fun hs => ?_) | refine WLPV_split (fun hs => ?_) (fun hs => ?_) | refine WLPC_split (fun hs => ?_) (fun hs => ?_) | refine WLV_split (fun hs => ?_) (fun hs => ?_) | refine WLC_split (fun hs => ?_) (fun hs => ?_) | refine WLB_split (fun hs => ?_) (fun hs => ?_)))
  all_goals (try (have hs' := hs; simp at hs'))
  all_goals (try simp [*, -getElem?_pos, eq_item, fillA])
  all_goals (try (first | refine WLV_splitN (fun hs => ?_) (fun hs => ?_) | refine WLC_splitN (fun hs => ?_) (fun hs => ?_) | refine WLB_splitN (fun hs => ?_) (fun hs => ?_) | refine WLPV_splitN (fun hs => ?_) (fun hs => ?_) | refine WLPC_splitN (fun hs => ?_) (fun hs => ?_) | refine WLPV_split (fun hs => ?_) (fun hs => ?_) | refine WLPC_split (fun hs => ?_) (fun hs => ?_) | refine WLV_split (fun hs => ?_) (fun hs => ?_) | refine WLC_split (fun hs => ?_) (fun hs => ?_) | refine WLB_split (fun hs => ?_) (fun hs => ?_)))
  all_goals (try (have hs' := hs; simp at hs'))
  all_goals (try simp [*, -getElem?_pos, eq_item, fillA])
  all_goals (try (first | refine WLV_splitN (fun hs => ?_) (fun hs => ?_) | refine WLC_splitN (fun hs => ?_) (fun hs => ?_) | refine WLB_splitN (fun hs => ?_) (fun hs => ?_) | refine WLPV_splitN (fun hs => ?_) (fun hs => ?_) | refine WLPC_splitN (fun hs => ?_) (fun hs => ?_) | refine WLPV_split (fun hs => ?_) (fun hs => ?_) | refine WLPC_split (fun hs => ?_) (fun hs => ?_) | refine WLV_split (fun hs => ?_) (fun hs => ?_) | refine WLC_split (fun hs => ?_) (fun hs => ?_) | refine WLB_split (fun hs => ?_) (fun hs => ?_)))
  all_goals (try (have hs' := hs; simp at hs'))
  all_goals (try simp [*, -getElem?_pos, eq_item, fillA])
noncomputable abbrev msg_fine_F := fine_F
noncomputable def TMH : Tbl := tbl [(62, garlandref06_place_F), (86, garlandref06_Pair_F), (87, garlandref06_list_F)]
theorem TMH_ok : TblOK Try.prog TMH := tbl_ok (by
  simp only [List.mem_cons, List.not_mem_nil, or_false]
  rintro p (rfl | rfl | rfl)
  · exact garlandref06_place
  · exact garlandref06_Pair
  · exact garlandref06_list)
instance : Has TMH 62 garlandref06_place_F := ⟨rfl⟩
instance : Has TMH 86 garlandref06_Pair_F := ⟨rfl⟩
instance : Has TMH 87 garlandref06_list_F := ⟨rfl⟩

theorem garlandref06_has : Pure Try.prog 65 has_F := by
  refine con TMH_ok rfl rfl fun m _ => ⟨rfl, ?_⟩
  obtain ⟨kind, call, src, dest, key, slow, fin, place, pred, lst, ikey, ival, iver, gone, code, hl⟩ := m
  haveI : Fact (lst.length < 9223372036854775808) := ⟨hl⟩
  rcases kinds kind with h | h | h | h | h | h | h | ⟨h1, h2, h3, h4, h5, h6, h7⟩
  all_goals (try subst h)
  all_goals (try have e1 := beq_eq_false_iff_ne.2 h1)
  all_goals (try have e2 := beq_eq_false_iff_ne.2 h2)
  all_goals (try have e3 := beq_eq_false_iff_ne.2 h3)
  all_goals (try have e4 := beq_eq_false_iff_ne.2 h4)
  all_goals (try have e5 := beq_eq_false_iff_ne.2 h5)
  all_goals (try have e6 := beq_eq_false_iff_ne.2 h6)
  all_goals (try have e7 := beq_eq_false_iff_ne.2 h7)
  all_goals simp [cf65, Mg_av, -getElem?_pos, MW.cs, MW.has, MW.fine, MW.it, fillA, eq_item, *]
  all_goals (try (first | refine WLV_splitN (fun hs => ?_) (fun hs => ?_) | refine WLC_splitN (fun hs => ?_) (fun hs => ?_) | refine WLB_splitN (fun hs => ?_) (fun hs => ?_) | refine WLPV_splitN (fun hs => ?_) (fun hs => ?_) | refine WLPC_splitN (fun hs => ?_) (fun hs => ?_) | refine WLPV_split (fun hs => ?_) (fun hs => ?_) | refine WLPC_split (fun hs => ?_) (fun hs => ?_) | refine WLV_split (fun hs => ?_) (fun hs => ?_) | refine WLC_split (fun hs => ?_) (fun hs => ?_) | refine WLB_split (fun hs => ?_) (fun hs => ?_)))
  all_goals (try (have hs' := hs; simp at hs'))
  all_goals (try simp [*, -getElem?_pos, eq_item, fillA])
  all_goals (try (first | refine WLV_splitN (fun hs => ?_) (fun hs => ?_) | refine WLC_splitN (fun hs => ?_) (fun hs => ?_) | refine WLB_splitN (fun hs => ?_) (fun hs => ?_) | refine WLPV_splitN (fun hs => ?_) (fun hs => ?_) | refine WLPC_splitN (fun hs => ?_) (fun hs => ?_) | refine WLPV_split (fun hs => ?_) (fun hs => ?_) | refine WLPC_split (fun hs => ?_) (fun hs => ?_) | refine WLV_split (fun hs => ?_) (fun hs => ?_) | refine WLC_split (fun hs => ?_) (fun hs => ?_) | refine WLB_split (fun hs => ?_) (fun hs => ?_)))
  all_goals (try (have hs' := hs; simp at hs'))
  all_goals (try simp [*, -getElem?_pos, eq_item, fillA])
  all_goals (try (first | refine WLV_splitN (fun hs => ?_) (fun hs => ?_) | refine WLC_splitN (fun hs => ?_) (fun hs => ?_) | refine WLB_splitN (fun hs => ?_) (fun hs => ?_) | refine WLPV_splitN (fun hs => ?_) (fun hs => ?_) | refine WLPC_splitN (fun hs => ?_) (fun hs => ?_) | refine WLPV_split (fun hs => ?_) (fun hs => ?_) | refine WLPC_split (fun hs => ?_) (fun hs => ?_) | refine WLV_split (fun hs => ?_) (fun hs => ?_) | refine WLC_split (fun hs => ?_) (fun hs => ?_) | refine WLB_split (fun hs => ?_) (fun hs => ?_)))
  all_goals (try (have hs' := hs; simp at hs'))
  all_goals (try simp [*, -getElem?_pos, eq_item, fillA])
noncomputable abbrev garlandref06_has_F := has_F
end Go.Proofs.Ytbeocehhclfbiaa.Lite
namespace Go.Proofs.Ytbeocehhclfbiaa.Lite
open Go
attribute [local simp] WL_of WL_nil WL_blk WL_skip WL_label WL_exit WL_goto WL_seq WL_block WL_cond WL_reg WL_ret WJ_nil WJ_ex WJ_gt WJ_rt WJ_exb WJ_gtb WJ_rtb WLO_nil WLO_call WO_mv WO_pick WO_new WO_box WO_ld WO_ldn WO_st WO_off WO_ixa WO_ixs WO_fld WO_fldn WO_ixv WO_ixvn WO_ixb WO_bin WO_eqb WO_isn WO_eqs WO_not WO_conv WO_mkf WO_bld WO_bls WO_sla WO_sls WO_sl0 WO_len WO_app WO_mnx WO_ext WO_nilc wants_none wants_some wantv_b wantv_t WLV_true WLV_false WLC_false WLB_true WLB_false evX_t evX_c evXs_nil evXs_cons look_put look_putN look_cons look_arg0 look_arg stepK binOpA intOp strOp evRes oneOf outs gc toDV AV.dat? I Bo av_s List.map List.append_nil getO putO AV.cellsOf bne WL_dreg WLP_nil WLP_call WP_mv WP_pick WP_new WP_box WP_ld WP_ldn WP_off WP_ixa WP_ixs WP_fld WP_fldn WP_ixv WP_ixvn WP_ixb WP_bin WP_eqb WP_isn WP_eqs WP_not WP_conv WP_mkf WP_bld WP_bls WP_sla WP_sls WP_sl0 WP_len WP_app WP_mnx WP_ext WP_nilc WLPV_true WLPV_false WLPC_false WLC_tells WLPC_tells padH onNm onEx List.getElem?_cons_zero List.getElem?_cons_succ List.getElem?_nil restrict AV.lows lay AV.isCell lowObj AObj.lows WJ_nm AV.lows.go WL_scope onGt_rt onGt_nm onGt_ex WL_sreg WP_st preSt eraseB List.set_cons_zero List.set_cons_succ

def MW.empty (m : MW) : MW := ⟨m.kind, m.call, m.src, m.dest, 0, false, false, 0, 0, [], [], 0, 0, false, 0, by decide⟩
def MW.guard (m : MW) : Bool := decide (1 ≤ m.kind) && decide (m.kind < 13) && isPlace m.src && isPlace m.dest && !(m.src == m.dest)
def MW.calls (m : MW) : Bool := decide (m.asker * 1048576 + 1 ≤ m.call) && decide (m.call < m.asker * 1048576 + 1 + 1048576)
def MW.right (m : MW) : Bool := m.guard && m.calls && m.bare.same m.empty && m.has
instance (xs : List AV) (m : MW) [h : AsM xs m] : Tells asker_F [.agg xs] (.d (.int .i64 m.asker)) := ⟨[Mg m], [I m.asker], fun hp => by simp only [toDVs, asM_to h], orcM m, rfl, MW.flat_or m xs h, fun N M => by simp [AV.lows, h.l]⟩
noncomputable def mright_F := orcOf (fun m : MW => [Mg m]) (fun m => m.call < 9223372036854775808) (fun m => [Bo m.right])
theorem orcMc {out : MW → List DV} {m : MW} (hm : m.call < 9223372036854775808) : orcOf (fun m : MW => [Mg m]) (fun m => m.call < 9223372036854775808) out [Mg m] = some (out m) :=
  orcOf_eq (enc := fun m : MW => [Mg m]) (x := m) hm (fun y h => by
    simp only [Mg, List.cons.injEq, DV.g.injEq, and_true] at h
    exact MW.inj h)
instance (xs : List AV) (m : MW) [h : AsM xs m] [hm : Fact (m.call < 9223372036854775808)] : Tells mright_F [.agg xs] (.d (.bool m.right)) := ⟨[Mg m], [Bo m.right], fun hp => by simp only [toDVs, asM_to h], orcMc hm.out, rfl, MW.flat_or m xs h, fun N M => by simp [AV.lows, h.l]⟩
theorem asker_lo {m : MW} (h1 : isPlace m.src = true) (h2 : isPlace m.dest = true) : 0 ≤ m.asker ∧ m.asker < 65536 := by
  simp [isPlace] at h1 h2
  unfold MW.asker
  cases m.asks <;> simp <;> omega
noncomputable def TRM : Tbl := tbl [(62, garlandref06_place_F), (63, garlandref06_Asker_F), (64, garlandref06_bare_F), (19, garlandref06_Same_F), (65, garlandref06_has_F)]
theorem TRM_ok : TblOK Try.prog TRM := tbl_ok (by
  simp only [List.mem_cons, List.not_mem_nil, or_false]
  rintro p (rfl | rfl | rfl | rfl | rfl)
  · exact garlandref06_place
  · exact garlandref06_Asker
  · exact garlandref06_bare
  · exact garlandref06_Same
  · exact garlandref06_has)
instance : Has TRM 62 garlandref06_place_F := ⟨rfl⟩
instance : Has TRM 63 garlandref06_Asker_F := ⟨rfl⟩
instance : Has TRM 64 garlandref06_bare_F := ⟨rfl⟩
instance : Has TRM 19 garlandref06_Same_F := ⟨rfl⟩
instance : Has TRM 65 garlandref06_has_F := ⟨rfl⟩

theorem garlandref06_Right : Pure Try.prog 28 mright_F := by
  refine con TRM_ok rfl rfl fun m hm => ⟨rfl, ?_⟩
  have hw1 : isPlace m.src = true → isPlace m.dest = true → IntKind.i64.wrap (m.asker * 1048576) = m.asker * 1048576 := fun h1 h2 => by
    have := asker_lo h1 h2; rw [wrap64]; split <;> omega
  have hw2 : isPlace m.src = true → isPlace m.dest = true → IntKind.i64.wrap (m.asker * 1048576 + 1) = m.asker * 1048576 + 1 := fun h1 h2 => by
    have := asker_lo h1 h2; rw [wrap64]; split <;> omega
  have hw3 : isPlace m.src = true → isPlace m.dest = true → IntKind.i64.wrap (m.asker * 1048576 + 1 + 1048576) = m.asker * 1048576 + 1 + 1048576 := fun h1 h2 => by
    have := asker_lo h1 h2; rw [wrap64]; split <;> omega
  simp [cf28, Mg_av, -getElem?_pos, mcs_0, mcs_1, mcs_2, mcs_3, mcs_len, mcs_take, mcs_all, mcs_lows, fillA]
  all_goals (try (first | refine WLV_splitN (fun hs => ?_) (fun hs => ?_) | refine WLC_splitN (fun hs => ?_) (fun hs => ?_) | refine WLB_splitN (fun hs => ?_) (fun hs => ?_) | refine WLPV_splitN (fun hs => ?_) (fun hs => ?_) | refine WLPC_splitN (fun hs => ?_) (fun hs => ?_) | refine WLPV_split (fun hs => ?_) (fun hs => ?_) | refine WLPC_split (fun hs => ?_) (fun hs => ?_) | refine WLV_split (fun hs => ?_) (fun hs => ?_) | refine WLC_split (fun hs => ?_) (fun hs => ?_) | refine WLB_split (fun hs => ?_) (fun hs => ?_)))
  all_goals (try (have hs' := hs; simp at hs'))
  all_goals (try simp [*, -getElem?_pos, mcs_0, mcs_1, mcs_2, mcs_3, mcs_len, mcs_take, mcs_all, mcs_lows, fillA])
  all_goals (try (first | refine WLV_splitN (fun hs => ?_) (fun hs => ?_) | refine WLC_splitN (fun hs => ?_) (fun hs => ?_) | refine WLB_splitN (fun hs => ?_) (fun hs => ?_) | refine WLPV_splitN (fun hs => ?_) (fun hs => ?_) | refine WLPC_splitN (fun hs => ?_) (fun hs => ?_) | refine WLPV_split (fun hs => ?_) (fun hs => ?_) | refine WLPC_split (fun hs => ?_) (fun hs => ?_) | refine WLV_split (fun hs => ?_) (fun hs => ?_) | refine WLC_split (fun hs => ?_) (fun hs => ?_) | refine WLB_split (fun hs => ?_) (fun hs => ?_)))
  all_goals (try (have hs' := hs; simp at hs'))
  all_goals (try simp [*, -getElem?_pos, mcs_0, mcs_1, mcs_2, mcs_3, mcs_len, mcs_take, mcs_all, mcs_lows, fillA])
  all_goals (try (first | refine WLV_splitN (fun hs => ?_) (fun hs => ?_) | refine WLC_splitN (fun hs => ?_) (fun hs => ?_) | refine WLB_splitN (fun hs => ?_) (fun hs => ?_) | refine WLPV_splitN (fun hs => ?_) (fun hs => ?_) | refine WLPC_splitN (fun hs => ?_) (fun hs => ?_) | refine WLPV_split (fun hs => ?_) (fun hs => ?_) | refine WLPC_split (fun hs => ?_) (fun hs => ?_) | refine WLV_split (fun hs => ?_) (fun hs => ?_) | refine WLC_split (fun hs => ?_) (fun hs => ?_) | refine WLB_split (fun hs => ?_) (fun hs => ?_)))
  all_goals (try (have hs' := hs; simp at hs'))
  all_goals (try simp [*, -getElem?_pos, mcs_0, mcs_1, mcs_2, mcs_3, mcs_len, mcs_take, mcs_all, mcs_lows, fillA])
  all_goals (try (first | refine WLV_splitN (fun hs => ?_) (fun hs => ?_) | refine WLC_splitN (fun hs => ?_) (fun hs => ?_) | refine WLB_splitN (fun hs => ?_) (fun hs => ?_) | refine WLPV_splitN (fun hs => ?_) (fun hs => ?_) | refine WLPC_splitN (fun hs => ?_) (fun hs => ?_) | refine WLPV_split (fun hs => ?_) (fun hs => ?_) | refine WLPC_split (fun hs => ?_) (fun hs => ?_) | refine WLV_split (fun hs => ?_) (fun hs => ?_) | refine WLC_split (fun hs => ?_) (fun hs => ?_) | refine WLB_split (fun hs => ?_) (fun hs => ?_)))
  all_goals (try (have hs' := hs; simp at hs'))
  all_goals (try simp [*, -getElem?_pos, mcs_0, mcs_1, mcs_2, mcs_3, mcs_len, mcs_take, mcs_all, mcs_lows, fillA])
  all_goals (try (first | refine WLV_splitN (fun hs => ?_) (fun hs => ?_) | refine WLC_splitN (fun hs => ?_) (fun hs => ?_) | refine WLB_splitN (fun hs => ?_) (fun hs => ?_) | refine WLPV_splitN (fun hs => ?_) (fun hs => ?_) | refine WLPC_splitN (fun hs => ?_) (fun hs => ?_) | refine WLPV_split (fun hs => ?_) (fun hs => ?_) | refine WLPC_split (fun hs => ?_) (fun hs => ?_) | refine WLV_split (fun hs => ?_) (fun hs => ?_) | refine WLC_split (fun hs => ?_) (fun hs => ?_) | refine WLB_split (fun hs => ?_) (fun hs => ?_)))
  all_goals (try (have hs' := hs; simp at hs'))
  all_goals (try simp [*, -getElem?_pos, mcs_0, mcs_1, mcs_2, mcs_3, mcs_len, mcs_take, mcs_all, mcs_lows, fillA])
  all_goals (try (first | refine WLV_splitN (fun hs => ?_) (fun hs => ?_) | refine WLC_splitN (fun hs => ?_) (fun hs => ?_) | refine WLB_splitN (fun hs => ?_) (fun hs => ?_) | refine WLPV_splitN (fun hs => ?_) (fun hs => ?_) | refine WLPC_splitN (fun hs => ?_) (fun hs => ?_) | refine WLPV_split (fun hs => ?_) (fun hs => ?_) | refine WLPC_split (fun hs => ?_) (fun hs => ?_) | refine WLV_split (fun hs => ?_) (fun hs => ?_) | refine WLC_split (fun hs => ?_) (fun hs => ?_) | refine WLB_split (fun hs => ?_) (fun hs => ?_)))
  all_goals (try (have hs' := hs; simp at hs'))
  all_goals (try simp [*, -getElem?_pos, mcs_0, mcs_1, mcs_2, mcs_3, mcs_len, mcs_take, mcs_all, mcs_lows, fillA])
  all_goals (try (first | refine WLV_splitN (fun hs => ?_) (fun hs => ?_) | refine WLC_splitN (fun hs => ?_) (fun hs => ?_) | refine WLB_splitN (fun hs => ?_) (fun hs => ?_) | refine WLPV_splitN (fun hs => ?_) (fun hs => ?_) | refine WLPC_splitN (fun hs => ?_) (fun hs => ?_) | refine WLPV_split (fun hs => ?_) (fun hs => ?_) | refine WLPC_split (fun hs => ?_) (fun hs => ?_) | refine WLV_split (fun hs => ?_) (fun hs => ?_) | refine WLC_split (fun hs => ?_) (fun hs => ?_) | refine WLB_split (fun hs => ?_) (fun hs => ?_)))
  all_goals (try (have hs' := hs; simp at hs'))
  all_goals (try simp [*, -getElem?_pos, mcs_0, mcs_1, mcs_2, mcs_3, mcs_len, mcs_take, mcs_all, mcs_lows, fillA])
  all_goals (try (first | refine WLV_splitN (fun hs => ?_) (fun hs => ?_) | refine WLC_splitN (fun hs => ?_) (fun hs => ?_) | refine WLB_splitN (fun hs => ?_) (fun hs => ?_) | refine WLPV_splitN (fun hs => ?_) (fun hs => ?_) | refine WLPC_splitN (fun hs => ?_) (fun hs => ?_) | refine WLPV_split (fun hs => ?_) (fun hs => ?_) | refine WLPC_split (fun hs => ?_) (fun hs => ?_) | refine WLV_split (fun hs => ?_) (fun hs => ?_) | refine WLC_split (fun hs => ?_) (fun hs => ?_) | refine WLB_split (fun hs => ?_) (fun hs => ?_)))
  all_goals (try (have hs' := hs; simp at hs'))
  all_goals (try simp [*, -getElem?_pos, mcs_0, mcs_1, mcs_2, mcs_3, mcs_len, mcs_take, mcs_all, mcs_lows, fillA])
  all_goals first
    | (simp [MW.right, MW.guard, MW.calls, MW.empty, *]; done)
    | (have h3 : m.right = false := (by unfold MW.right MW.guard MW.calls; simp; omega); exact h3)

noncomputable abbrev garlandref06_Right_F := mright_F

def MW.off (m : MW) : MW := if m.kind = 6 then { m with ikey := [] } else m.bare
theorem off_right {m : MW} : (m.fine && m.off.same m.empty) = (m.bare.same m.empty && m.has) := by
  obtain ⟨kind, call, src, dest, key, slow, fin, place, pred, lst, ikey, ival, iver, gone, code, hl⟩ := m
  by_cases h : kind = 6
  · subst h
    simp only [MW.off, MW.bare, MW.has, MW.fine, MW.same, MW.empty, MW.it, IW.pair, if_true]
    simp
    cases h1 : ival == 0 with
    | false => simp at h1; simp [h1]
    | true =>
      cases h2 : iver == 0 with
      | false => simp at h2; simp [h2]
      | true =>
        simp at h1 h2; subst h1 h2
        cases gone <;> cases key == 0 <;> cases slow <;> cases fin <;> cases place == 0 <;> cases pred == 0 <;> cases keyB ikey <;> cases code == 0 <;> simp [within]
  · have h1 : MW.off ⟨kind, call, src, dest, key, slow, fin, place, pred, lst, ikey, ival, iver, gone, code, hl⟩ = MW.bare ⟨kind, call, src, dest, key, slow, fin, place, pred, lst, ikey, ival, iver, gone, code, hl⟩ := by simp [MW.off, h]
    have h2 : MW.has ⟨kind, call, src, dest, key, slow, fin, place, pred, lst, ikey, ival, iver, gone, code, hl⟩ = MW.fine ⟨kind, call, src, dest, key, slow, fin, place, pred, lst, ikey, ival, iver, gone, code, hl⟩ := by simp [MW.has, h]
    rw [h1, h2, Bool.and_comm]
theorem call_quo {m : MW} (h1 : isPlace m.src = true) (h2 : isPlace m.dest = true) (hc : 1 ≤ m.call) : (Int.tdiv (m.call - 1) 1048576 == m.asker) = m.calls := by
  have := asker_lo h1 h2
  rw [Int.tdiv_eq_ediv_of_nonneg (by omega)]
  unfold MW.calls
  rw [Bool.eq_iff_iff]
  simp
  omega
theorem right_off (m : MW) : m.right = (m.guard && m.calls && (m.fine && m.off.same m.empty)) := by
  unfold MW.right; rw [off_right, Bool.and_assoc (m.guard && m.calls)]
theorem calls_lo {m : MW} (h1 : isPlace m.src = true) (h2 : isPlace m.dest = true) (hc : m.call < 1) : m.calls = false := by
  have := asker_lo h1 h2
  unfold MW.calls; simp; omega
noncomputable def TMR : Tbl := tbl [(76, msg_place_F), (77, msg_Asker_F), (78, msg_fine_F), (80, msg_Same_F)]
theorem TMR_ok : TblOK Try.prog TMR := tbl_ok (by
  simp only [List.mem_cons, List.not_mem_nil, or_false]
  rintro p (rfl | rfl | rfl | rfl)
  · exact msg_place
  · exact msg_Asker
  · exact msg_fine
  · exact msg_Same)
instance : Has TMR 76 msg_place_F := ⟨rfl⟩
instance : Has TMR 77 msg_Asker_F := ⟨rfl⟩
instance : Has TMR 78 msg_fine_F := ⟨rfl⟩
instance : Has TMR 80 msg_Same_F := ⟨rfl⟩

theorem msg_Right : Pure Try.prog 55 mright_F := by
  refine con TMR_ok rfl rfl fun m hm => ⟨rfl, ?_⟩
  have hq : isPlace m.src = true → isPlace m.dest = true → decide (m.call < 1) = false → (Int.tdiv (m.call - 1) 1048576 == m.asker) = m.calls := fun h1 h2 h3 => call_quo h1 h2 (by simpa using h3)
  have hw1 : decide (m.call < 1) = false → IntKind.i64.wrap (m.call - 1) = m.call - 1 := fun h => by
    simp at h; rw [wrap64]; split <;> omega
  have hw2 : isPlace m.src = true → isPlace m.dest = true → decide (m.call < 1) = false → IntKind.i64.wrap (Int.tdiv (m.call - 1) 1048576) = Int.tdiv (m.call - 1) 1048576 := fun h1 h2 h => by
    simp at h
    rw [Int.tdiv_eq_ediv_of_nonneg (by omega), wrap64]; split <;> omega
  simp [cf55, Mg_av, -getElem?_pos, mcs_0, mcs_1, mcs_2, mcs_3, mcs_len, mcs_take, mcs_all, mcs_lows, fillA]
  all_goals (try (first | refine WLV_splitN (fun hs => ?_) (fun hs => ?_) | refine WLC_splitN (fun hs => ?_) (fun hs => ?_) | refine WLB_splitN (fun hs => ?_) (fun hs => ?_) | refine WLPV_splitN (fun hs => ?_) (fun hs => ?_) | refine WLPC_splitN (fun hs => ?_) (fun hs => ?_) | refine WLPV_split (fun hs => ?_) (fun hs => ?_) | refine WLPC_split (fun hs => ?_) (fun hs => ?_) | refine WLV_split (fun hs => ?_) (fun hs => ?_) | refine WLC_split (fun hs => ?_) (fun hs => ?_) | refine WLB_split (fun hs => ?_) (fun hs => ?_)))
  all_goals (try (have hs' := hs; simp at hs'))
  all_goals (try simp [*, -getElem?_pos, mcs_0, mcs_1, mcs_2, mcs_3, mcs_len, mcs_take, mcs_all, mcs_lows, fillA])
  all_goals (try (first | refine WLV_splitN (fun hs => ?_) (fun hs => ?_) | refine WLC_splitN (fun hs => ?_) (fun hs => ?_) | refine WLB_splitN (fun hs => ?_) (fun hs => ?_) | refine WLPV_splitN (fun hs => ?_) (fun hs => ?_) | refine WLPC_splitN (fun hs => ?_) (fun hs => ?_) | refine WLPV_split (fun hs => ?_) (fun hs => ?_) | refine WLPC_split (fun hs => ?_) (fun hs => ?_) | refine WLV_split (fun hs => ?_) (fun hs => ?_) | refine WLC_split (fun hs => ?_) (fun hs => ?_) | refine WLB_split (fun hs => ?_) (fun hs => ?_)))
  all_goals (try (have hs' := hs; simp at hs'))
  all_goals (try simp [*, -getElem?_pos, mcs_0, mcs_1, mcs_2, mcs_3, mcs_len, mcs_take, mcs_all, mcs_lows, fillA])
  all_goals (try (first | refine WLV_splitN (fun hs => ?_) (fun hs => ?_) | refine WLC_splitN (fun hs => ?_) (fun hs => ?_) | refine WLB_splitN (fun hs => ?_) (fun hs => ?_) | refine WLPV_splitN (fun hs => ?_) (fun hs => ?_) | refine WLPC_splitN (fun hs => ?_) (fun hs => ?_) | refine WLPV_split (fun hs => ?_) (fun hs => ?_) | refine WLPC_split (fun hs => ?_) (fun hs => ?_) | refine WLV_split (fun hs => ?_) (fun hs => ?_) | refine WLC_split (fun hs => ?_) (fun hs => ?_) | refine WLB_split (fun hs => ?_) (fun hs => ?_)))
  all_goals (try (have hs' := hs; simp at hs'))
  all_goals (try simp [*, -getElem?_pos, mcs_0, mcs_1, mcs_2, mcs_3, mcs_len, mcs_take, mcs_all, mcs_lows, fillA])
  all_goals (try (first | refine WLV_splitN (fun hs => ?_) (fun hs => ?_) | refine WLC_splitN (fun hs => ?_) (fun hs => ?_) | refine WLB_splitN (fun hs => ?_) (fun hs => ?_) | refine WLPV_splitN (fun hs => ?_) (fun hs => ?_) | refine WLPC_splitN (fun hs => ?_) (fun hs => ?_) | refine WLPV_split (fun hs => ?_) (fun hs => ?_) | refine WLPC_split (fun hs => ?_) (fun hs => ?_) | refine WLV_split (fun hs => ?_) (fun hs => ?_) | refine WLC_split (fun hs => ?_) (fun hs => ?_) | refine WLB_split (fun hs => ?_) (fun hs => ?_)))
  all_goals (try (have hs' := hs; simp at hs'))
  all_goals (try simp [*, -getElem?_pos, mcs_0, mcs_1, mcs_2, mcs_3, mcs_len, mcs_take, mcs_all, mcs_lows, fillA])
  all_goals (try (first | refine WLV_splitN (fun hs => ?_) (fun hs => ?_) | refine WLC_splitN (fun hs => ?_) (fun hs => ?_) | refine WLB_splitN (fun hs => ?_) (fun hs => ?_) | refine WLPV_splitN (fun hs => ?_) (fun hs => ?_) | refine WLPC_splitN (fun hs => ?_) (fun hs => ?_) | refine WLPV_split (fun hs => ?_) (fun hs => ?_) | refine WLPC_split (fun hs => ?_) (fun hs => ?_) | refine WLV_split (fun hs => ?_) (fun hs => ?_) | refine WLC_split (fun hs => ?_) (fun hs => ?_) | refine WLB_split (fun hs => ?_) (fun hs => ?_)))
  all_goals (try (have hs' := hs; simp at hs'))
  all_goals (try simp [*, -getElem?_pos, mcs_0, mcs_1, mcs_2, mcs_3, mcs_len, mcs_take, mcs_all, mcs_lows, fillA])
  all_goals try (
    refine onGt_go (rest := .seq .skip (.seq (.reg (⟨some 2, .mv (.c (.d (.bool false))), none⟩ :: [])) .ret)) rfl ?_
    simp [-getElem?_pos, mcs_all]
    first | (simp [MW.right, MW.guard, *]; done) | (have h3 : m.right = false := (by unfold MW.right MW.guard; simp; omega); exact h3))
  all_goals (try (first | refine WLV_splitN (fun hs => ?_) (fun hs => ?_) | refine WLC_splitN (fun hs => ?_) (fun hs => ?_) | refine WLB_splitN (fun hs => ?_) (fun hs => ?_) | refine WLPV_splitN (fun hs => ?_) (fun hs => ?_) | refine WLPC_splitN (fun hs => ?_) (fun hs => ?_) | refine WLPV_split (fun hs => ?_) (fun hs => ?_) | refine WLPC_split (fun hs => ?_) (fun hs => ?_) | refine WLV_split (fun hs => ?_) (fun hs => ?_) | refine WLC_split (fun hs => ?_) (fun hs => ?_) | refine WLB_split (fun hs => ?_) (fun hs => ?_)))
  all_goals (try (have hs' := hs; simp at hs'))
  all_goals (try simp [*, -getElem?_pos, mcs_0, mcs_1, mcs_2, mcs_3, mcs_len, mcs_take, mcs_all, mcs_lows, fillA])
  all_goals (try (first | refine WLV_splitN (fun hs => ?_) (fun hs => ?_) | refine WLC_splitN (fun hs => ?_) (fun hs => ?_) | refine WLB_splitN (fun hs => ?_) (fun hs => ?_) | refine WLPV_splitN (fun hs => ?_) (fun hs => ?_) | refine WLPC_splitN (fun hs => ?_) (fun hs => ?_) | refine WLPV_split (fun hs => ?_) (fun hs => ?_) | refine WLPC_split (fun hs => ?_) (fun hs => ?_) | refine WLV_split (fun hs => ?_) (fun hs => ?_) | refine WLC_split (fun hs => ?_) (fun hs => ?_) | refine WLB_split (fun hs => ?_) (fun hs => ?_)))
  all_goals (try (have hs' := hs; simp at hs'))
  all_goals (try simp [*, -getElem?_pos, mcs_0, mcs_1, mcs_2, mcs_3, mcs_len, mcs_take, mcs_all, mcs_lows, fillA])
  all_goals (try (first | refine WLV_splitN (fun hs => ?_) (fun hs => ?_) | refine WLC_splitN (fun hs => ?_) (fun hs => ?_) | refine WLB_splitN (fun hs => ?_) (fun hs => ?_) | refine WLPV_splitN (fun hs => ?_) (fun hs => ?_) | refine WLPC_splitN (fun hs => ?_) (fun hs => ?_) | refine WLPV_split (fun hs => ?_) (fun hs => ?_) | refine WLPC_split (fun hs => ?_) (fun hs => ?_) | refine WLV_split (fun hs => ?_) (fun hs => ?_) | refine WLC_split (fun hs => ?_) (fun hs => ?_) | refine WLB_split (fun hs => ?_) (fun hs => ?_)))
  all_goals (try (have hs' := hs; simp at hs'))
  all_goals (try simp [*, -getElem?_pos, mcs_0, mcs_1, mcs_2, mcs_3, mcs_len, mcs_take, mcs_all, mcs_lows, fillA])
  all_goals try (
    refine onGt_go (rest := .seq .skip (.seq (.reg (⟨some 2, .mv (.c (.d (.bool false))), none⟩ :: [])) .ret)) rfl ?_
    simp [-getElem?_pos, mcs_all]
    first | (simp [right_off, *]; done) | (have h3 := calls_lo (by assumption) (by assumption) hs'; simp [right_off, h3]))
  have hfin : m.right = m.off.same m.empty := by
    rw [right_off]
    have hg : m.guard = true := by unfold MW.guard; simp [*]
    simp [*]
  rw [hfin]
  clear hfin hw1 hw2 hq
  obtain ⟨kind, call, src, dest, key, slow, fin, place, pred, lst, ikey, ival, iver, gone, code, hl⟩ := m
  haveI : Fact (lst.length < 9223372036854775808) := ⟨hl⟩
  rcases kinds kind with h | h | h | h | h | h | h | ⟨h1, h2, h3, h4, h5, h6, h7⟩
  all_goals (try subst h)
  all_goals (try have e1 := beq_eq_false_iff_ne.2 h1)
  all_goals (try have e2 := beq_eq_false_iff_ne.2 h2)
  all_goals (try have e3 := beq_eq_false_iff_ne.2 h3)
  all_goals (try have e4 := beq_eq_false_iff_ne.2 h4)
  all_goals (try have e5 := beq_eq_false_iff_ne.2 h5)
  all_goals (try have e6 := beq_eq_false_iff_ne.2 h6)
  all_goals (try have e7 := beq_eq_false_iff_ne.2 h7)
  all_goals (
    refine WLC_fn (cf := cf79) rfl rfl rfl ?_
    simp [cf79, afterC, -getElem?_pos, MW.cs, MW.off, MW.bare, MW.empty, fillA, *])
noncomputable abbrev msg_Right_F := mright_F
end Go.Proofs.Ytbeocehhclfbiaa.Lite
namespace Go.Proofs.Ytbeocehhclfbiaa.Lite
open Go
attribute [local simp] WL_of WL_nil WL_blk WL_skip WL_label WL_exit WL_goto WL_seq WL_block WL_cond WL_reg WL_ret WJ_nil WJ_ex WJ_gt WJ_rt WJ_exb WJ_gtb WJ_rtb WLO_nil WLO_call WO_mv WO_pick WO_new WO_box WO_ld WO_ldn WO_st WO_off WO_ixa WO_ixs WO_fld WO_fldn WO_ixv WO_ixvn WO_ixb WO_bin WO_eqb WO_isn WO_eqs WO_not WO_conv WO_mkf WO_bld WO_bls WO_sla WO_sls WO_sl0 WO_len WO_app WO_mnx WO_ext WO_nilc wants_none wants_some wantv_b wantv_t WLV_true WLV_false WLC_false WLB_true WLB_false evX_t evX_c evXs_nil evXs_cons look_put look_putN look_cons look_arg0 look_arg stepK binOpA intOp strOp evRes oneOf outs gc toDV AV.dat? I Bo av_s List.map List.append_nil getO putO AV.cellsOf bne WL_dreg WLP_nil WLP_call WP_mv WP_pick WP_new WP_box WP_ld WP_ldn WP_off WP_ixa WP_ixs WP_fld WP_fldn WP_ixv WP_ixvn WP_ixb WP_bin WP_eqb WP_isn WP_eqs WP_not WP_conv WP_mkf WP_bld WP_bls WP_sla WP_sls WP_sl0 WP_len WP_app WP_mnx WP_ext WP_nilc WLPV_true WLPV_false WLPC_false WLC_tells WLPC_tells padH onNm onEx List.getElem?_cons_zero List.getElem?_cons_succ List.getElem?_nil restrict AV.lows lay AV.isCell lowObj AObj.lows WJ_nm AV.lows.go WL_scope onGt_rt onGt_nm onGt_ex WL_sreg WP_st preSt eraseB List.set_cons_zero List.set_cons_succ

def answer (v : VW) (m : MW) : MW := bif v.right && m.right && (m.kind == 4) && (m.dest == v.id) then ⟨10, m.call, m.dest, m.src, 0, false, (v.next m.key m.slow).2, (v.next m.key m.slow).1, 0, [], [], 0, 0, false, 0, by decide⟩ else MW.zero
noncomputable def answer_F := orcOf (fun p : VW × MW => [V p.1, Mg p.2]) (fun p => p.2.call < 9223372036854775808) (fun p => [Mg (answer p.1 p.2)])
theorem orcVM {out : VW × MW → List DV} {v : VW} {m : MW} (hm : m.call < 9223372036854775808) : orcOf (fun p : VW × MW => [V p.1, Mg p.2]) (fun p => p.2.call < 9223372036854775808) out [V v, Mg m] = some (out (v, m)) :=
  orcOf_eq (enc := fun p : VW × MW => [V p.1, Mg p.2]) (x := (v, m)) hm (fun y h => by
    simp only [V, Mg, List.cons.injEq, DV.g.injEq, and_true] at h
    exact Prod.ext (VW.inj h.1) (MW.inj h.2))
theorem toV (v : VW) (hp : Heap) : toDV hp (.agg v.cs) = some (V v) := by simp [toDV, cs_dats, V]
theorem cs_tied (v : VW) : (AV.agg v.cs).tied = false := by
  simp [AV.tied, VW.cs]
instance (v : VW) (xs : List AV) (m : MW) [h : AsM xs m] [hm : Fact (m.call < 9223372036854775808)] : Tells answer_F [.agg v.cs, .agg xs] (.agg (answer v m).cs) :=
  ⟨[V v, Mg m], [Mg (answer v m)], fun hp => by simp only [toDVs, toV, asM_to h], orcVM hm.out, rfl, by simp [h.t, cs_tied], fun N M => by simp [AV.lows, h.l, cs_lows]⟩
theorem tell_cs {m : MW} (hk : m.kind = 4) : m.tell.cs = [.d (.int .u8 10), .d (.int .i64 m.call), .d (.int .i64 m.dest), .d (.int .i64 m.src), .d (.int .i64 0), .d (.bool false), .d (.bool false), .d (.int .i64 0), .d (.int .i64 0), vsI [], .d (.str []), .d (.int .i64 0), .d (.int .i64 0), .d (.bool false), .d (.int .i64 0)] := by
  have ha : m.asks = true := by simp [MW.asks, hk]
  simp [MW.tell, ha, MW.cs, hk, MW.zero]
noncomputable def TAN : Tbl := tbl [(55, msg_Right_F), (52, view_Right_F), (56, msg_Tell_F), (15, hop_Next_F)]
theorem TAN_ok : TblOK Try.prog TAN := tbl_ok (by
  simp only [List.mem_cons, List.not_mem_nil, or_false]
  rintro p (rfl | rfl | rfl | rfl)
  · exact msg_Right
  · exact view_Right
  · exact msg_Tell
  · exact hop_Next)
instance : Has TAN 55 msg_Right_F := ⟨rfl⟩
instance : Has TAN 52 view_Right_F := ⟨rfl⟩
instance : Has TAN 56 msg_Tell_F := ⟨rfl⟩
instance : Has TAN 15 hop_Next_F := ⟨rfl⟩

theorem hop_Answer : Pure Try.prog 20 answer_F := by
  refine con TAN_ok rfl rfl fun ⟨v, m⟩ hm => ⟨rfl, ?_⟩
  have hm : m.call < 9223372036854775808 := hm
  haveI : Fact (m.call < 9223372036854775808) := ⟨hm⟩
  have htc : (m.kind == 4) = true → m.tell.cs = _ := fun h => tell_cs (m := m) (by simpa using h)
  simp [cf20, Mg_av, V_av, -getElem?_pos, cs_0, cs_length, cs_take, cs_all, cs_lows, mcs_0, mcs_1, mcs_2, mcs_3, mcs_4, mcs_5, mcs_len, mcs_take, mcs_all, mcs_lows, fillA]
  all_goals (try (first | refine WLV_splitN (fun hs => ?_) (fun hs => ?_) | refine WLC_splitN (fun hs => ?_) (fun hs => ?_) | refine WLB_splitN (fun hs => ?_) (fun hs => ?_) | refine WLPV_splitN (fun hs => ?_) (fun hs => ?_) | refine WLPC_splitN (fun hs => ?_) (fun hs => ?_) | refine WLPV_split (fun hs => ?_) (fun hs => ?_) | refine WLPC_split (fun hs => ?_) (fun hs => ?_) | refine WLV_split (fun hs => ?_) (fun hs => ?_) | refine WLC_split (fun hs => ?_) (fun hs => ?_) | refine WLB_split (fun hs => ?_) (fun hs => ?_)))
  all_goals (try (have hs' := hs; simp at hs'))
  all_goals (try simp [*, -getElem?_pos, cs_0, cs_length, cs_take, cs_all, cs_lows, mcs_0, mcs_1, mcs_2, mcs_3, mcs_4, mcs_5, mcs_len, mcs_take, mcs_all, mcs_lows, fillA])
  all_goals (try (first | refine WLV_splitN (fun hs => ?_) (fun hs => ?_) | refine WLC_splitN (fun hs => ?_) (fun hs => ?_) | refine WLB_splitN (fun hs => ?_) (fun hs => ?_) | refine WLPV_splitN (fun hs => ?_) (fun hs => ?_) | refine WLPC_splitN (fun hs => ?_) (fun hs => ?_) | refine WLPV_split (fun hs => ?_) (fun hs => ?_) | refine WLPC_split (fun hs => ?_) (fun hs => ?_) | refine WLV_split (fun hs => ?_) (fun hs => ?_) | refine WLC_split (fun hs => ?_) (fun hs => ?_) | refine WLB_split (fun hs => ?_) (fun hs => ?_)))
  all_goals (try (have hs' := hs; simp at hs'))
  all_goals (try simp [*, -getElem?_pos, cs_0, cs_length, cs_take, cs_all, cs_lows, mcs_0, mcs_1, mcs_2, mcs_3, mcs_4, mcs_5, mcs_len, mcs_take, mcs_all, mcs_lows, fillA])
  all_goals (try (first | refine WLV_splitN (fun hs => ?_) (fun hs => ?_) | refine WLC_splitN (fun hs => ?_) (fun hs => ?_) | refine WLB_splitN (fun hs => ?_) (fun hs => ?_) | refine WLPV_splitN (fun hs => ?_) (fun hs => ?_) | refine WLPC_splitN (fun hs => ?_) (fun hs => ?_) | refine WLPV_split (fun hs => ?_) (fun hs => ?_) | refine WLPC_split (fun hs => ?_) (fun hs => ?_) | refine WLV_split (fun hs => ?_) (fun hs => ?_) | refine WLC_split (fun hs => ?_) (fun hs => ?_) | refine WLB_split (fun hs => ?_) (fun hs => ?_)))
  all_goals (try (have hs' := hs; simp at hs'))
  all_goals (try simp [*, -getElem?_pos, cs_0, cs_length, cs_take, cs_all, cs_lows, mcs_0, mcs_1, mcs_2, mcs_3, mcs_4, mcs_5, mcs_len, mcs_take, mcs_all, mcs_lows, fillA])
  all_goals (try (first | refine WLV_splitN (fun hs => ?_) (fun hs => ?_) | refine WLC_splitN (fun hs => ?_) (fun hs => ?_) | refine WLB_splitN (fun hs => ?_) (fun hs => ?_) | refine WLPV_splitN (fun hs => ?_) (fun hs => ?_) | refine WLPC_splitN (fun hs => ?_) (fun hs => ?_) | refine WLPV_split (fun hs => ?_) (fun hs => ?_) | refine WLPC_split (fun hs => ?_) (fun hs => ?_) | refine WLV_split (fun hs => ?_) (fun hs => ?_) | refine WLC_split (fun hs => ?_) (fun hs => ?_) | refine WLB_split (fun hs => ?_) (fun hs => ?_)))
  all_goals (try (have hs' := hs; simp at hs'))
  all_goals (try simp [*, -getElem?_pos, cs_0, cs_length, cs_take, cs_all, cs_lows, mcs_0, mcs_1, mcs_2, mcs_3, mcs_4, mcs_5, mcs_len, mcs_take, mcs_all, mcs_lows, fillA])
  all_goals first
    | (refine onGt_go (rest := (.seq .skip (.seq (.reg (⟨(some 38), .ldn 15 (.t 4), none⟩ ::
    ⟨none, .st 15 (.t 4) (.t 38), none⟩ ::
    []))
  .ret))) rfl ?_
       simp [-getElem?_pos, cs_all, mcs_all]
       have ha : answer v m = MW.zero := by simp [answer, *]
       rw [ha]; exact ⟨_, rfl, rfl⟩)
    | (have ha : answer v m = ⟨10, m.call, v.id, m.src, 0, false, (v.next m.key m.slow).2, (v.next m.key m.slow).1, 0, [], [], 0, 0, false, 0, by decide⟩ := by simp [answer, *]
       rw [ha]; exact ⟨_, rfl, rfl⟩)
noncomputable abbrev hop_Answer_F := answer_F
noncomputable def TAN2 : Tbl := tbl [(28, garlandref06_Right_F), (24, garlandref13_Right_F), (57, garlandref06_Tell_F), (16, garlandref16_Next_F)]
theorem TAN2_ok : TblOK Try.prog TAN2 := tbl_ok (by
  simp only [List.mem_cons, List.not_mem_nil, or_false]
  rintro p (rfl | rfl | rfl | rfl)
  · exact garlandref06_Right
  · exact garlandref13_Right
  · exact garlandref06_Tell
  · exact garlandref16_Next)
instance : Has TAN2 28 garlandref06_Right_F := ⟨rfl⟩
instance : Has TAN2 24 garlandref13_Right_F := ⟨rfl⟩
instance : Has TAN2 57 garlandref06_Tell_F := ⟨rfl⟩
instance : Has TAN2 16 garlandref16_Next_F := ⟨rfl⟩

theorem garlandref16_Answer : Pure Try.prog 21 answer_F := by
  refine con TAN2_ok rfl rfl fun ⟨v, m⟩ hm => ⟨rfl, ?_⟩
  have hm : m.call < 9223372036854775808 := hm
  haveI : Fact (m.call < 9223372036854775808) := ⟨hm⟩
  have htc : (m.kind == 4) = true → m.tell.cs = _ := fun h => tell_cs (m := m) (by simpa using h)
  simp [cf21, Mg_av, V_av, -getElem?_pos, cs_0, cs_length, cs_take, cs_all, cs_lows, mcs_0, mcs_1, mcs_2, mcs_3, mcs_4, mcs_5, mcs_len, mcs_take, mcs_all, mcs_lows, fillA]
  all_goals (try (first | refine WLV_splitN (fun hs => ?_) (fun hs => ?_) | refine WLC_splitN (fun hs => ?_) (fun hs => ?_) | refine WLB_splitN (fun hs => ?_) (fun hs => ?_) | refine WLPV_splitN (fun hs => ?_) (fun hs => ?_) | refine WLPC_splitN (fun hs => ?_) (fun hs => ?_) | refine WLPV_split (fun hs => ?_) (fun hs => ?_) | refine WLPC_split (fun hs => ?_) (fun hs => ?_) | refine WLV_split (fun hs => ?_) (fun hs => ?_) | refine WLC_split (fun hs => ?_) (fun hs => ?_) | refine WLB_split (fun hs => ?_) (fun hs => ?_)))
  all_goals (try (have hs' := hs; simp at hs'))
  all_goals (try simp [*, -getElem?_pos, cs_0, cs_length, cs_take, cs_all, cs_lows, mcs_0, mcs_1, mcs_2, mcs_3, mcs_4, mcs_5, mcs_len, mcs_take, mcs_all, mcs_lows, fillA])
  all_goals (try (first | refine WLV_splitN (fun hs => ?_) (fun hs => ?_) | refine WLC_splitN (fun hs => ?_) (fun hs => ?_) | refine WLB_splitN (fun hs => ?_) (fun hs => ?_) | refine WLPV_splitN (fun hs => ?_) (fun hs => ?_) | refine WLPC_splitN (fun hs => ?_) (fun hs => ?_) | refine WLPV_split (fun hs => ?_) (fun hs => ?_) | refine WLPC_split (fun hs => ?_) (fun hs => ?_) | refine WLV_split (fun hs => ?_) (fun hs => ?_) | refine WLC_split (fun hs => ?_) (fun hs => ?_) | refine WLB_split (fun hs => ?_) (fun hs => ?_)))
  all_goals (try (have hs' := hs; simp at hs'))
  all_goals (try simp [*, -getElem?_pos, cs_0, cs_length, cs_take, cs_all, cs_lows, mcs_0, mcs_1, mcs_2, mcs_3, mcs_4, mcs_5, mcs_len, mcs_take, mcs_all, mcs_lows, fillA])
  all_goals (try (first | refine WLV_splitN (fun hs => ?_) (fun hs => ?_) | refine WLC_splitN (fun hs => ?_) (fun hs => ?_) | refine WLB_splitN (fun hs => ?_) (fun hs => ?_) | refine WLPV_splitN (fun hs => ?_) (fun hs => ?_) | refine WLPC_splitN (fun hs => ?_) (fun hs => ?_) | refine WLPV_split (fun hs => ?_) (fun hs => ?_) | refine WLPC_split (fun hs => ?_) (fun hs => ?_) | refine WLV_split (fun hs => ?_) (fun hs => ?_) | refine WLC_split (fun hs => ?_) (fun hs => ?_) | refine WLB_split (fun hs => ?_) (fun hs => ?_)))
  all_goals (try (have hs' := hs; simp at hs'))
  all_goals (try simp [*, -getElem?_pos, cs_0, cs_length, cs_take, cs_all, cs_lows, mcs_0, mcs_1, mcs_2, mcs_3, mcs_4, mcs_5, mcs_len, mcs_take, mcs_all, mcs_lows, fillA])
  all_goals (try (first | refine WLV_splitN (fun hs => ?_) (fun hs => ?_) | refine WLC_splitN (fun hs => ?_) (fun hs => ?_) | refine WLB_splitN (fun hs => ?_) (fun hs => ?_) | refine WLPV_splitN (fun hs => ?_) (fun hs => ?_) | refine WLPC_splitN (fun hs => ?_) (fun hs => ?_) | refine WLPV_split (fun hs => ?_) (fun hs => ?_) | refine WLPC_split (fun hs => ?_) (fun hs => ?_) | refine WLV_split (fun hs => ?_) (fun hs => ?_) | refine WLC_split (fun hs => ?_) (fun hs => ?_) | refine WLB_split (fun hs => ?_) (fun hs => ?_)))
  all_goals (try (have hs' := hs; simp at hs'))
  all_goals (try simp [*, -getElem?_pos, cs_0, cs_length, cs_take, cs_all, cs_lows, mcs_0, mcs_1, mcs_2, mcs_3, mcs_4, mcs_5, mcs_len, mcs_take, mcs_all, mcs_lows, fillA])
  all_goals first
    | (have ha : answer v m = MW.zero := by simp [answer, *]
       rw [ha]; exact ⟨_, rfl, rfl⟩)
    | (have ha : answer v m = ⟨10, m.call, v.id, m.src, 0, false, (v.next m.key m.slow).2, (v.next m.key m.slow).1, 0, [], [], 0, 0, false, 0, by decide⟩ := by simp [answer, *]
       rw [ha]; exact ⟨_, rfl, rfl⟩)
noncomputable abbrev garlandref16_Answer_F := answer_F
def VW.great (v : VW) : Bool := decide (20 < v.base.length) || decide (20 < v.lst.length)
noncomputable def great_F := orcOf (fun v : VW => [V v]) (fun _ => True) (fun v => [Bo v.great])
instance (v : VW) : Tells great_F [.agg v.cs] (.d (.bool v.great)) :=
  ⟨[V v], [Bo v.great], fun h => by simp only [toDVs, toV], orcOf_eq (enc := fun v : VW => [V v]) (x := v) trivial (fun y h => by
    simp only [V, List.cons.injEq, DV.g.injEq, and_true] at h
    exact VW.inj h), rfl, by simp [cs_tied], fun _ _ => by simp [AV.lows, cs_lows]⟩
theorem garlandref13_Great : Pure Try.prog 13 great_F := by
  refine con (T := tbl []) (tbl_ok (by simp)) rfl rfl fun v _ => ⟨rfl, ?_⟩
  by_cases h1 : 20 < v.base.length <;> by_cases h2 : 20 < v.lst.length
  all_goals
    simp [cf13, V_av, -getElem?_pos, cs_1, cs_2, cs_length, stepK.lenA, rowsI_length, VW.great, h1, h2, show ((20 : Int) < v.base.length) = (20 < v.base.length) from by rw [eq_iff_iff]; omega, show ((20 : Int) < v.lst.length) = (20 < v.lst.length) from by rw [eq_iff_iff]; omega]
noncomputable abbrev garlandref13_Great_F := great_F
end Go.Proofs.Ytbeocehhclfbiaa.Lite
namespace Go.Proofs.Ytbeocehhclfbiaa.Lite
open Go
attribute [local simp] WL_of WL_nil WL_blk WL_skip WL_label WL_exit WL_goto WL_seq WL_block WL_cond WL_reg WL_ret WJ_nil WJ_ex WJ_gt WJ_rt WJ_exb WJ_gtb WJ_rtb WLO_nil WLO_call WO_mv WO_pick WO_new WO_box WO_ld WO_ldn WO_st WO_off WO_ixa WO_ixs WO_fld WO_fldn WO_ixv WO_ixvn WO_ixb WO_bin WO_eqb WO_isn WO_eqs WO_not WO_conv WO_mkf WO_bld WO_bls WO_sla WO_sls WO_sl0 WO_len WO_app WO_mnx WO_ext WO_nilc wants_none wants_some wantv_b wantv_t WLV_true WLV_false WLC_false WLB_true WLB_false evX_t evX_c evXs_nil evXs_cons look_put look_putN look_cons look_arg0 look_arg stepK binOpA intOp strOp evRes oneOf outs gc toDV AV.dat? I Bo av_s List.map List.append_nil getO putO AV.cellsOf bne WL_dreg WLP_nil WLP_call WP_mv WP_pick WP_new WP_box WP_ld WP_ldn WP_off WP_ixa WP_ixs WP_fld WP_fldn WP_ixv WP_ixvn WP_ixb WP_bin WP_eqb WP_isn WP_eqs WP_not WP_conv WP_mkf WP_bld WP_bls WP_sla WP_sls WP_sl0 WP_len WP_app WP_mnx WP_ext WP_nilc WLPV_true WLPV_false WLPC_false WLC_tells WLPC_tells padH onNm onEx List.getElem?_cons_zero List.getElem?_cons_succ List.getElem?_nil restrict AV.lows lay AV.isCell lowObj AObj.lows WJ_nm AV.lows.go WL_scope onGt_rt onGt_nm onGt_ex WL_sreg WP_st preSt eraseB List.set_cons_zero List.set_cons_succ

theorem same_refl (m : MW) : m.same m = true := by simp [MW.same]
theorem mcs_drop10 (m : MW) : m.cs[10]? = some (.d (.str m.ikey)) := rfl
noncomputable def TH4 : Tbl := tbl [(13, garlandref13_Great_F), (14, garlandlaw16_wakes_F), (15, hop_Next_F), (16, garlandref16_Next_F), (17, hop_Left_F), (18, garlandref16_Left_F), (20, hop_Answer_F), (21, garlandref16_Answer_F), (19, garlandref06_Same_F), (22, hop_Closer_F), (23, garlandref16_Closer_F)]
theorem TH4_ok : TblOK Try.prog TH4 := tbl_ok (by
  simp only [List.mem_cons, List.not_mem_nil, or_false]
  rintro p (rfl | rfl | rfl | rfl | rfl | rfl | rfl | rfl | rfl | rfl | rfl)
  · exact garlandref13_Great
  · exact garlandlaw16_wakes
  · exact hop_Next
  · exact garlandref16_Next
  · exact hop_Left
  · exact garlandref16_Left
  · exact hop_Answer
  · exact garlandref16_Answer
  · exact garlandref06_Same
  · exact hop_Closer
  · exact garlandref16_Closer)
instance : Has TH4 13 garlandref13_Great_F := ⟨rfl⟩
instance : Has TH4 14 garlandlaw16_wakes_F := ⟨rfl⟩
instance : Has TH4 15 hop_Next_F := ⟨rfl⟩
instance : Has TH4 16 garlandref16_Next_F := ⟨rfl⟩
instance : Has TH4 17 hop_Left_F := ⟨rfl⟩
instance : Has TH4 18 garlandref16_Left_F := ⟨rfl⟩
instance : Has TH4 20 hop_Answer_F := ⟨rfl⟩
instance : Has TH4 21 garlandref16_Answer_F := ⟨rfl⟩
instance : Has TH4 19 garlandref06_Same_F := ⟨rfl⟩
instance : Has TH4 22 hop_Closer_F := ⟨rfl⟩
instance : Has TH4 23 garlandref16_Closer_F := ⟨rfl⟩

noncomputable def HopTells_F := orcOf (fun p : VW × MW × Int × Bool × Int × Int => [V p.1, Mg p.2.1, I p.2.2.1, Bo p.2.2.2.1, I p.2.2.2.2.1, I p.2.2.2.2.2]) (fun p => p.2.1.call < 9223372036854775808) (fun _ => [Bo true])
theorem garlandlaw16_HopTells : Pure Try.prog 3 HopTells_F := by
  refine con TH4_ok rfl rfl fun ⟨v, m, k, s, a, b⟩ hm => ⟨rfl, ?_⟩
  have hm : m.call < 9223372036854775808 := hm
  haveI : Fact (m.call < 9223372036854775808) := ⟨hm⟩
  simp [cf3, Mg_av, V_av, -getElem?_pos, cs_0, cs_length, cs_take, cs_all, cs_lows, mcs_9, mcs_drop10, mcs_len, mcs_take, mcs_all, mcs_lows, stepK.lenA, rowsI_length]
  all_goals (try (first | refine WLV_splitN (fun hs => ?_) (fun hs => ?_) | refine WLC_splitN (fun hs => ?_) (fun hs => ?_) | refine WLB_splitN (fun hs => ?_) (fun hs => ?_) | refine WLPV_splitN (fun hs => ?_) (fun hs => ?_) | refine WLPC_splitN (fun hs => ?_) (fun hs => ?_) | refine WLPV_split (fun hs => ?_) (fun hs => ?_) | refine WLPC_split (fun hs => ?_) (fun hs => ?_) | refine WLV_split (fun hs => ?_) (fun hs => ?_) | refine WLC_split (fun hs => ?_) (fun hs => ?_) | refine WLB_split (fun hs => ?_) (fun hs => ?_)))
  all_goals (try (have hs' := hs; simp at hs'))
  all_goals (try simp [*, -getElem?_pos, cs_0, cs_length, cs_take, cs_all, cs_lows, mcs_9, mcs_drop10, mcs_len, mcs_take, mcs_all, mcs_lows, stepK.lenA, rowsI_length, same_refl])
  all_goals (try (first | refine WLV_splitN (fun hs => ?_) (fun hs => ?_) | refine WLC_splitN (fun hs => ?_) (fun hs => ?_) | refine WLB_splitN (fun hs => ?_) (fun hs => ?_) | refine WLPV_splitN (fun hs => ?_) (fun hs => ?_) | refine WLPC_splitN (fun hs => ?_) (fun hs => ?_) | refine WLPV_split (fun hs => ?_) (fun hs => ?_) | refine WLPC_split (fun hs => ?_) (fun hs => ?_) | refine WLV_split (fun hs => ?_) (fun hs => ?_) | refine WLC_split (fun hs => ?_) (fun hs => ?_) | refine WLB_split (fun hs => ?_) (fun hs => ?_)))
  all_goals (try (have hs' := hs; simp at hs'))
  all_goals (try simp [*, -getElem?_pos, cs_0, cs_length, cs_take, cs_all, cs_lows, mcs_9, mcs_drop10, mcs_len, mcs_take, mcs_all, mcs_lows, stepK.lenA, rowsI_length, same_refl])
  all_goals (try (first | refine WLV_splitN (fun hs => ?_) (fun hs => ?_) | refine WLC_splitN (fun hs => ?_) (fun hs => ?_) | refine WLB_splitN (fun hs => ?_) (fun hs => ?_) | refine WLPV_splitN (fun hs => ?_) (fun hs => ?_) | refine WLPC_splitN (fun hs => ?_) (fun hs => ?_) | refine WLPV_split (fun hs => ?_) (fun hs => ?_) | refine WLPC_split (fun hs => ?_) (fun hs => ?_) | refine WLV_split (fun hs => ?_) (fun hs => ?_) | refine WLC_split (fun hs => ?_) (fun hs => ?_) | refine WLB_split (fun hs => ?_) (fun hs => ?_)))
  all_goals (try (have hs' := hs; simp at hs'))
  all_goals (try simp [*, -getElem?_pos, cs_0, cs_length, cs_take, cs_all, cs_lows, mcs_9, mcs_drop10, mcs_len, mcs_take, mcs_all, mcs_lows, stepK.lenA, rowsI_length, same_refl])
noncomputable abbrev garlandlaw16_HopTells_F := HopTells_F
end Go.Proofs.Ytbeocehhclfbiaa.Lite
namespace Go.Proofs.Ytbeocehhclfbiaa.Lite
open Go
attribute [local simp] WL_of WL_nil WL_blk WL_skip WL_label WL_exit WL_goto WL_seq WL_block WL_cond WL_reg WL_ret WJ_nil WJ_ex WJ_gt WJ_rt WJ_exb WJ_gtb WJ_rtb WLO_nil WLO_call WO_mv WO_pick WO_new WO_box WO_ld WO_ldn WO_st WO_off WO_ixa WO_ixs WO_fld WO_fldn WO_ixv WO_ixvn WO_ixb WO_bin WO_eqb WO_isn WO_eqs WO_not WO_conv WO_mkf WO_bld WO_bls WO_sla WO_sls WO_sl0 WO_len WO_app WO_mnx WO_ext WO_nilc wants_none wants_some wantv_b wantv_t WLV_true WLV_false WLC_false WLB_true WLB_false evX_t evX_c evXs_nil evXs_cons look_put look_putN look_cons look_arg0 look_arg stepK binOpA intOp strOp evRes oneOf outs gc toDV AV.dat? I Bo av_s List.map List.append_nil getO putO AV.cellsOf bne WL_dreg WLP_nil WLP_call WP_mv WP_pick WP_new WP_box WP_ld WP_ldn WP_off WP_ixa WP_ixs WP_fld WP_fldn WP_ixv WP_ixvn WP_ixb WP_bin WP_eqb WP_isn WP_eqs WP_not WP_conv WP_mkf WP_bld WP_bls WP_sla WP_sls WP_sl0 WP_len WP_app WP_mnx WP_ext WP_nilc WLPV_true WLPV_false WLPC_false WLC_tells WLPC_tells padH onNm onEx List.getElem?_cons_zero List.getElem?_cons_succ List.getElem?_nil restrict AV.lows lay AV.isCell lowObj AObj.lows WJ_nm AV.lows.go WL_scope onGt_rt onGt_nm onGt_ex WL_sreg WP_st preSt eraseB List.set_cons_zero List.set_cons_succ

theorem mcs_cell (m : MW) : m.cs.all AV.isCell = true := rfl
theorem answer_no {v : VW} {m : MW} (h : (m.right && (m.kind == 4) && (m.dest == v.id)) = false) : answer v m = MW.zero := by
  unfold answer
  rw [Bool.and_assoc, Bool.and_assoc, ← Bool.and_assoc m.right, h]
  simp
def told (v : VW) (m : MW) : MW := ⟨10, m.call, v.id, m.src, 0, false, (v.next m.key m.slow).2, (v.next m.key m.slow).1, 0, [], [], 0, 0, false, 0, by decide⟩
theorem answer_yes {v : VW} {m : MW} (hv : v.right = true) (h1 : m.right = true) (h2 : (m.kind == 4) = true) (h3 : (m.dest == v.id) = true) : answer v m = told v m := by
  have h3' : m.dest = v.id := by simpa using h3
  simp [answer, told, hv, h1, h2, h3']
theorem told_right {v : VW} {m : MW} (hv : v.right = true) (h1 : m.right = true) (h2 : (m.kind == 4) = true) (h3 : (m.dest == v.id) = true) : (told v m).right = true := by
  have h2' : m.kind = 4 := by simpa using h2
  have h3' : m.dest = v.id := by simpa using h3
  obtain ⟨p0, p1, p2⟩ := next_place hv m.key m.slow
  unfold MW.right MW.guard MW.calls at h1
  have ha : m.asker = m.src := by simp [MW.asker, MW.asks, h2']
  have ha2 : (told v m).asker = m.src := by simp [MW.asker, MW.asks, told]
  simp only [Bool.and_eq_true] at h1
  obtain ⟨⟨⟨⟨⟨⟨⟨g1, g2⟩, g3⟩, g4⟩, g5⟩, c1, c2⟩, b⟩, hh⟩ := h1
  unfold MW.right MW.guard MW.calls
  rw [ha2]
  rw [ha] at c1 c2
  have hp : isPlace (v.next m.key m.slow).1 = true := by rw [isPlace_iff]; exact ⟨p0, p1⟩
  rw [h3'] at g4 g5
  have g5' : (v.id == m.src) = false := by
    rw [beq_eq_false_iff_ne]
    intro h; rw [h] at g5; simp at g5
  have hb : (told v m).bare.same (told v m).empty = true := by simp [told, MW.bare, MW.empty, MW.same]
  have hhas : (told v m).has = true := by simp [told, MW.has, MW.fine, hp]
  rw [hb, hhas]
  rw [decide_eq_true_eq] at c1 c2
  simp [told, c1, c2, g3, g4]
  simpa using g5'
noncomputable def TH7 : Tbl := tbl [(24, garlandref13_Right_F), (14, garlandlaw16_wakes_F), (15, hop_Next_F), (20, hop_Answer_F), (28, garlandref06_Right_F), (19, garlandref06_Same_F)]
theorem TH7_ok : TblOK Try.prog TH7 := tbl_ok (by
  simp only [List.mem_cons, List.not_mem_nil, or_false]
  rintro p (rfl | rfl | rfl | rfl | rfl | rfl)
  · exact garlandref13_Right
  · exact garlandlaw16_wakes
  · exact hop_Next
  · exact hop_Answer
  · exact garlandref06_Right
  · exact garlandref06_Same)
instance : Has TH7 24 garlandref13_Right_F := ⟨rfl⟩
instance : Has TH7 14 garlandlaw16_wakes_F := ⟨rfl⟩
instance : Has TH7 15 hop_Next_F := ⟨rfl⟩
instance : Has TH7 20 hop_Answer_F := ⟨rfl⟩
instance : Has TH7 28 garlandref06_Right_F := ⟨rfl⟩
instance : Has TH7 19 garlandref06_Same_F := ⟨rfl⟩

noncomputable def HopAnswers_F := orcOf (fun p : VW × MW => [V p.1, Mg p.2]) (fun p => p.2.call < 9223372036854775808) (fun _ => [Bo true])
theorem garlandlaw16_HopAnswers : Pure Try.prog 7 HopAnswers_F := by
  refine con TH7_ok rfl rfl fun ⟨v, m⟩ hm => ⟨rfl, ?_⟩
  have hm : m.call < 9223372036854775808 := hm
  haveI : Fact (m.call < 9223372036854775808) := ⟨hm⟩
  haveI : Fact ((told v m).call < 9223372036854775808) := ⟨hm⟩
  have hz : MW.zero.same ⟨0, 0, 0, 0, 0, false, false, 0, 0, [], [], 0, 0, false, 0, by decide⟩ = true := by decide
  cases hb : m.right && (m.kind == 4) && (m.dest == v.id) with
  | false =>
    have ha := answer_no hb
    simp [cf7, Mg_av, V_av, -getElem?_pos, cs_0, cs_length, cs_take, cs_all, cs_lows, mcs_9, mcs_drop10, mcs_len, mcs_cell, mcs_take, mcs_all, mcs_lows, stepK.lenA, rowsI_length, ha]
    all_goals (try (first | refine WLV_splitN (fun hs => ?_) (fun hs => ?_) | refine WLC_splitN (fun hs => ?_) (fun hs => ?_) | refine WLB_splitN (fun hs => ?_) (fun hs => ?_) | refine WLPV_splitN (fun hs => ?_) (fun hs => ?_) | refine WLPC_splitN (fun hs => ?_) (fun hs => ?_) | refine WLPV_split (fun hs => ?_) (fun hs => ?_) | refine WLPC_split (fun hs => ?_) (fun hs => ?_) | refine WLV_split (fun hs => ?_) (fun hs => ?_) | refine WLC_split (fun hs => ?_) (fun hs => ?_) | refine WLB_split (fun hs => ?_) (fun hs => ?_)))
    all_goals (try (have hs' := hs; simp at hs'))
    all_goals (try simp [*, -getElem?_pos, cs_0, cs_length, cs_take, cs_all, cs_lows, mcs_0, mcs_3, mcs_9, mcs_drop10, mcs_len, mcs_cell, mcs_take, mcs_all, mcs_lows, stepK.lenA, rowsI_length, ha, hz, fillA])
    all_goals (try (first | refine WLV_splitN (fun hs => ?_) (fun hs => ?_) | refine WLC_splitN (fun hs => ?_) (fun hs => ?_) | refine WLB_splitN (fun hs => ?_) (fun hs => ?_) | refine WLPV_splitN (fun hs => ?_) (fun hs => ?_) | refine WLPC_splitN (fun hs => ?_) (fun hs => ?_) | refine WLPV_split (fun hs => ?_) (fun hs => ?_) | refine WLPC_split (fun hs => ?_) (fun hs => ?_) | refine WLV_split (fun hs => ?_) (fun hs => ?_) | refine WLC_split (fun hs => ?_) (fun hs => ?_) | refine WLB_split (fun hs => ?_) (fun hs => ?_)))
    all_goals (try (have hs' := hs; simp at hs'))
    all_goals (try simp [*, -getElem?_pos, cs_0, cs_length, cs_take, cs_all, cs_lows, mcs_0, mcs_3, mcs_9, mcs_drop10, mcs_len, mcs_cell, mcs_take, mcs_all, mcs_lows, stepK.lenA, rowsI_length, ha, hz, fillA])
    all_goals (try (first | refine WLV_splitN (fun hs => ?_) (fun hs => ?_) | refine WLC_splitN (fun hs => ?_) (fun hs => ?_) | refine WLB_splitN (fun hs => ?_) (fun hs => ?_) | refine WLPV_splitN (fun hs => ?_) (fun hs => ?_) | refine WLPC_splitN (fun hs => ?_) (fun hs => ?_) | refine WLPV_split (fun hs => ?_) (fun hs => ?_) | refine WLPC_split (fun hs => ?_) (fun hs => ?_) | refine WLV_split (fun hs => ?_) (fun hs => ?_) | refine WLC_split (fun hs => ?_) (fun hs => ?_) | refine WLB_split (fun hs => ?_) (fun hs => ?_)))
    all_goals (try (have hs' := hs; simp at hs'))
    all_goals (try simp [*, -getElem?_pos, cs_0, cs_length, cs_take, cs_all, cs_lows, mcs_0, mcs_3, mcs_9, mcs_drop10, mcs_len, mcs_cell, mcs_take, mcs_all, mcs_lows, stepK.lenA, rowsI_length, ha, hz, fillA])
    all_goals (try (first | refine WLV_splitN (fun hs => ?_) (fun hs => ?_) | refine WLC_splitN (fun hs => ?_) (fun hs => ?_) | refine WLB_splitN (fun hs => ?_) (fun hs => ?_) | refine WLPV_splitN (fun hs => ?_) (fun hs => ?_) | refine WLPC_splitN (fun hs => ?_) (fun hs => ?_) | refine WLPV_split (fun hs => ?_) (fun hs => ?_) | refine WLPC_split (fun hs => ?_) (fun hs => ?_) | refine WLV_split (fun hs => ?_) (fun hs => ?_) | refine WLC_split (fun hs => ?_) (fun hs => ?_) | refine WLB_split (fun hs => ?_) (fun hs => ?_)))
    all_goals (try (have hs' := hs; simp at hs'))
    all_goals (try simp [*, -getElem?_pos, cs_0, cs_length, cs_take, cs_all, cs_lows, mcs_0, mcs_3, mcs_9, mcs_drop10, mcs_len, mcs_cell, mcs_take, mcs_all, mcs_lows, stepK.lenA, rowsI_length, ha, hz, fillA])
    all_goals (try (first | refine WLV_splitN (fun hs => ?_) (fun hs => ?_) | refine WLC_splitN (fun hs => ?_) (fun hs => ?_) | refine WLB_splitN (fun hs => ?_) (fun hs => ?_) | refine WLPV_splitN (fun hs => ?_) (fun hs => ?_) | refine WLPC_splitN (fun hs => ?_) (fun hs => ?_) | refine WLPV_split (fun hs => ?_) (fun hs => ?_) | refine WLPC_split (fun hs => ?_) (fun hs => ?_) | refine WLV_split (fun hs => ?_) (fun hs => ?_) | refine WLC_split (fun hs => ?_) (fun hs => ?_) | refine WLB_split (fun hs => ?_) (fun hs => ?_)))
    all_goals (try (have hs' := hs; simp at hs'))
    all_goals (try simp [*, -getElem?_pos, cs_0, cs_length, cs_take, cs_all, cs_lows, mcs_0, mcs_3, mcs_9, mcs_drop10, mcs_len, mcs_cell, mcs_take, mcs_all, mcs_lows, stepK.lenA, rowsI_length, ha, hz, fillA])
    all_goals (try (first | refine WLV_splitN (fun hs => ?_) (fun hs => ?_) | refine WLC_splitN (fun hs => ?_) (fun hs => ?_) | refine WLB_splitN (fun hs => ?_) (fun hs => ?_) | refine WLPV_splitN (fun hs => ?_) (fun hs => ?_) | refine WLPC_splitN (fun hs => ?_) (fun hs => ?_) | refine WLPV_split (fun hs => ?_) (fun hs => ?_) | refine WLPC_split (fun hs => ?_) (fun hs => ?_) | refine WLV_split (fun hs => ?_) (fun hs => ?_) | refine WLC_split (fun hs => ?_) (fun hs => ?_) | refine WLB_split (fun hs => ?_) (fun hs => ?_)))
    all_goals (try (have hs' := hs; simp at hs'))
    all_goals (try simp [*, -getElem?_pos, cs_0, cs_length, cs_take, cs_all, cs_lows, mcs_0, mcs_3, mcs_9, mcs_drop10, mcs_len, mcs_cell, mcs_take, mcs_all, mcs_lows, stepK.lenA, rowsI_length, ha, hz, fillA])
    all_goals (rw [show m.right = true by assumption, show (m.kind == 4) = true by assumption, show (m.dest == v.id) = true by assumption] at hb; cases hb)
  | true =>
    simp only [Bool.and_eq_true] at hb
    obtain ⟨⟨h1, h2⟩, h3⟩ := hb
    have h2' : m.kind = 4 := by simpa using h2
    have h3' : m.dest = v.id := by simpa using h3
    cases hv : v.right with
    | false => simp [cf7, Mg_av, V_av, -getElem?_pos, cs_0, cs_length, cs_take, cs_all, cs_lows, hv]
    | true =>
      have ha := answer_yes hv h1 h2 h3
      have hr := told_right hv h1 h2 h3
      have t0 : (told v m).kind = 10 := rfl
      have t1 : (told v m).call = m.call := rfl
      have t2 : (told v m).src = v.id := rfl
      have t3 : (told v m).dest = m.src := rfl
      have t6 : (told v m).fin = (v.next m.key m.slow).2 := rfl
      have t7 : (told v m).place = (v.next m.key m.slow).1 := rfl
      simp [cf7, Mg_av, V_av, -getElem?_pos, cs_0, cs_length, cs_take, cs_all, cs_lows, mcs_0, mcs_1, mcs_2, mcs_3, mcs_4, mcs_5, mcs_6, mcs_7, mcs_9, mcs_drop10, mcs_len, mcs_cell, mcs_take, mcs_all, mcs_lows, stepK.lenA, rowsI_length, ha, hv, h1, h2', h3', hr, t0, t1, t2, t3, t6, t7]
      all_goals (try (first | refine WLV_splitN (fun hs => ?_) (fun hs => ?_) | refine WLC_splitN (fun hs => ?_) (fun hs => ?_) | refine WLB_splitN (fun hs => ?_) (fun hs => ?_) | refine WLPV_splitN (fun hs => ?_) (fun hs => ?_) | refine WLPC_splitN (fun hs => ?_) (fun hs => ?_) | refine WLPV_split (fun hs => ?_) (fun hs => ?_) | refine WLPC_split (fun hs => ?_) (fun hs => ?_) | refine WLV_split (fun hs => ?_) (fun hs => ?_) | refine WLC_split (fun hs => ?_) (fun hs => ?_) | refine WLB_split (fun hs => ?_) (fun hs => ?_)))
      all_goals (try (have hs' := hs; simp at hs'))
      all_goals (try simp [*, -getElem?_pos, cs_0, cs_length, cs_take, cs_all, cs_lows, mcs_0, mcs_1, mcs_2, mcs_3, mcs_4, mcs_5, mcs_6, mcs_7, mcs_9, mcs_drop10, mcs_len, mcs_cell, mcs_take, mcs_all, mcs_lows, stepK.lenA, rowsI_length, t0, t1, t2, t3, t6, t7])
      all_goals (try (first | refine WLV_splitN (fun hs => ?_) (fun hs => ?_) | refine WLC_splitN (fun hs => ?_) (fun hs => ?_) | refine WLB_splitN (fun hs => ?_) (fun hs => ?_) | refine WLPV_splitN (fun hs => ?_) (fun hs => ?_) | refine WLPC_splitN (fun hs => ?_) (fun hs => ?_) | refine WLPV_split (fun hs => ?_) (fun hs => ?_) | refine WLPC_split (fun hs => ?_) (fun hs => ?_) | refine WLV_split (fun hs => ?_) (fun hs => ?_) | refine WLC_split (fun hs => ?_) (fun hs => ?_) | refine WLB_split (fun hs => ?_) (fun hs => ?_)))
      all_goals (try (have hs' := hs; simp at hs'))
      all_goals (try simp [*, -getElem?_pos, cs_0, cs_length, cs_take, cs_all, cs_lows, mcs_0, mcs_1, mcs_2, mcs_3, mcs_4, mcs_5, mcs_6, mcs_7, mcs_9, mcs_drop10, mcs_len, mcs_cell, mcs_take, mcs_all, mcs_lows, stepK.lenA, rowsI_length, t0, t1, t2, t3, t6, t7])
noncomputable abbrev garlandlaw16_HopAnswers_F := HopAnswers_F
end Go.Proofs.Ytbeocehhclfbiaa.Lite
section
set_option maxRecDepth 100000
namespace Go.Proofs.Ytbeocehhclfbiaa.Lite.hopAnswers
open Go Go.RowKit Go.ChangeShapes Go.WideShapes Go.ChangeAt Go.Proofs.Ytbeocehhclfbiaa Go.Proofs.Ytbeocehhclfbiaa.Lite
theorem lifted (os : Os) (started : os.Started) (H : Type) (enc : TypeId × Value → H) :
    ReturnsInHanded {} Try.checked os 7 .any (Rows.hopAnswersSpec.pre6 enc Try.prog Try.f7 Rows.hopAnswersRow.domain false) (Rows.hopAnswersSpec.post enc Try.prog Try.f7 false true false false) := by
  refine returnsInHanded_of_change_sized (C := Try.checked) own started (by kernel_rfl) Try.func7
    (ChangeSpec.witness6 (enc := enc) (C := Try.checked) false ⟨#[], #[.agg #[.int .i64 0, .slice none 0 0, .slice none 0 0, .int .i64 0, .int .i64 0, .int .i64 0, .int .i64 0, .int .i64 0, .int .i64 0, .int .i64 0, .int .i64 0, .int .i64 0, .int .i64 0, .int .i64 0, .int .i64 0, .int .i64 0, .int .i64 0, .int .i64 0, .int .i64 0, .int .i64 0], .agg #[.int .u8 0, .int .i64 0, .int .i64 0, .int .i64 0, .int .i64 0, .bool false, .bool false, .int .i64 0, .int .i64 0, .slice none 0 0, .string ByteArray.empty, .int .i64 0, .int .i64 0, .bool false, .int .i64 0]], []⟩ 8 (by kernel_rfl) (by kernel_rfl) (by kernel_rfl) (by kernel_rfl)) ?_
  intro W base args ds gs before hval0 hW hcnd hsz0 _
  have hval : ∀ (j : Nat) t v, Try.f7.params[j]? = some t → args[j]? = some v → Value.okWide Try.prog W .any base t v := hval0
  have hW' := hW
  obtain ⟨p, q, hA0, hV, rfl, hfz, hnd⟩ := hW
  have hA : DataW.TrodAll enc Try.prog W 0 (fun _ => true) true Try.f7.params.toList args.toList ds p := hA0
  rw [Try.params7] at hA hval
  obtain ⟨v0, vs0, d0, ds0, p0, q0, hargs, rfl, rfl, h0, r0⟩ := trodAll_cons hA
  obtain ⟨v1, vs1, d1, ds1, p1, q1, rfl, rfl, rfl, h1, r1⟩ := trodAll_cons r0
  obtain ⟨rfl, rfl, rfl⟩ := trodAll_nil r1
  obtain rfl : args = #[v0, v1] := by cases args; simp_all
  obtain ⟨rfl, rfl⟩ := trodVars_none hV
  obtain ⟨x0, e0⟩ := open_V (m := 5) (by kernel_rfl) (by kernel_rfl) (hval 0 _ v0 rfl rfl) h0
  obtain ⟨x1, e1, _⟩ := open_M (m := 5) (by kernel_rfl) (by kernel_rfl) (hval 1 _ v1 rfl rfl) h1
  clear hA0 hval0 hsz0
  refine (law_holds garlandlaw16_HopAnswers (orcOf_const (x := (x0, x1)) (by first | trivial | assumption)) rfl (rel_cons e0 (rel_cons e1 rel_nil))).mono fun e W' ⟨he, bel⟩ => ?_
  subst he
  exact ⟨_, rfl, _, _, _, [], _, [], hW', trodAll_mk1 (shut_bool (by kernel_rfl) _), (trodAll_cons_mk (back (by kernel_rfl) (of_decide_eq_true (by kernel_rfl)) h0 bel) (trodAll_cons_mk (back (by kernel_rfl) (of_decide_eq_true (by kernel_rfl)) h1 bel) trodAll_mk0)), rfl, bel.frame _, fun h => by cases h⟩
theorem over : Rows.hopAnswersRow.holds Try.pinned (OpenSpec.ofChange Rows.hopAnswersSpec) :=
  OpenClaim.holds_of_wide 7 Try.f7 rfl rfl rfl rfl rfl rfl rfl ⟨rfl, rfl, rfl, rfl, rfl⟩ rfl rfl rfl rfl rfl (by kernel_rfl) Try.func7 (by kernel_rfl)
    (of_decide_eq_true (by kernel_rfl)) (by unfold Func.isWrapper; first | (rw [if_pos (by decide +kernel)]; kernel_rfl) | (rw [if_neg (by decide +kernel)]; exact ⟨rfl, rfl⟩))
    (fun os started H enc _ => lifted os started H enc)
theorem proved : Rows.HopAnswersSaid := over
end Go.Proofs.Ytbeocehhclfbiaa.Lite.hopAnswers
namespace Go.Proofs.Ytbeocehhclfbiaa
/-- The row. -/
theorem hopAnswers_holds : Rows.HopAnswersSaid := Lite.hopAnswers.proved
#print axioms hopAnswers_holds
end Go.Proofs.Ytbeocehhclfbiaa
end
