/- LookCloser: whatever the views, the place, and whose look it is: the law is true, and its arguments stay as they were. No condition but those of the row itself. -/
import Derived.WalkKit
import Derived.ProofKit
import Derived.ShutString
import Derived.SizedLaws
import Derived.Carry
import Derived.KernelRfl
import Derived.Test.YtbeocehhclfbiaaRows
import Derived.Test.YtbeocehhclfbiaaHc2
import Derived.Test.YtbeocehhclfbiaaHc4
import Derived.Test.YtbeocehhclfbiaaHc5
set_option linter.unusedSimpArgs false
set_option linter.unusedVariables false
namespace Go.Proofs.Ytbeocehhclfbiaa.Lite
open Go
attribute [local simp] WL_of WL_nil WL_blk WL_skip WL_label WL_exit WL_goto WL_seq WL_block WL_cond WL_reg WL_ret WJ_nil WJ_ex WJ_gt WJ_rt WJ_exb WJ_gtb WJ_rtb WLO_nil WLO_call WO_mv WO_pick WO_new WO_box WO_ld WO_ldn WO_st WO_off WO_ixa WO_ixs WO_fld WO_fldn WO_ixv WO_ixvn WO_ixb WO_bin WO_eqb WO_isn WO_eqs WO_not WO_conv WO_mkf WO_bld WO_bls WO_sla WO_sls WO_sl0 WO_len WO_app WO_mnx WO_ext WO_nilc wants_none wants_some wantv_b wantv_t WLV_true WLV_false WLC_false WLB_true WLB_false evX_t evX_c evXs_nil evXs_cons look_put look_putN look_cons look_arg0 look_arg stepK binOpA intOp strOp evRes oneOf outs gc toDV AV.dat? I Bo av_s List.map List.append_nil getO putO AV.cellsOf bne WL_dreg WLP_nil WLP_call WP_mv WP_pick WP_new WP_box WP_ld WP_ldn WP_off WP_ixa WP_ixs WP_fld WP_fldn WP_ixv WP_ixvn WP_ixb WP_bin WP_eqb WP_isn WP_eqs WP_not WP_conv WP_mkf WP_bld WP_bls WP_sla WP_sls WP_sl0 WP_len WP_app WP_mnx WP_ext WP_nilc WLPV_true WLPV_false WLPC_false WLC_tells WLPC_tells padH onNm onEx List.getElem?_cons_zero List.getElem?_cons_succ List.getElem?_nil restrict AV.lows lay AV.isCell lowObj AObj.lows WJ_nm AV.lows.go WL_scope onGt_rt onGt_nm onGt_ex WL_sreg WP_st preSt eraseB List.set_cons_zero List.set_cons_succ

structure LW where
  key : Int
  loc : Int
  hops : Int
  slow : Bool
  found : Bool
  code : Int
def LW.dats (l : LW) : List Dat := [.int .i64 l.key, .int .i64 l.loc, .int .i64 l.hops, .bool l.slow, .bool l.found, .int .i64 l.code]
def LW.cs (l : LW) : List AV := [.d (.int .i64 l.key), .d (.int .i64 l.loc), .d (.int .i64 l.hops), .d (.bool l.slow), .d (.bool l.found), .d (.int .i64 l.code)]
def Lk (l : LW) : DV := .g l.dats
theorem Lk_av (l : LW) : (Lk l).av = .agg l.cs := rfl
theorem LW.inj {l k : LW} (h : l.dats = k.dats) : l = k := by
  obtain ⟨⟩ := l
  obtain ⟨⟩ := k
  simp only [LW.dats, List.cons.injEq, Dat.int.injEq, Dat.bool.injEq, true_and, and_true] at h
  simp_all
class AsL (xs : List AV) (l : outParam LW) : Prop where
  d : dats? xs = some l.dats
  l : ∀ N M, AV.lows.go N M xs = true
  t : (AV.agg xs).tied = false
instance (l : LW) : AsL l.cs l := ⟨rfl, fun _ _ => rfl, rfl⟩
instance (key loc hops : Int) (slow found : Bool) (code : Int) : AsL [.d (.int .i64 key), .d (.int .i64 loc), .d (.int .i64 hops), .d (.bool slow), .d (.bool found), .d (.int .i64 code)] ⟨key, loc, hops, slow, found, code⟩ := ⟨rfl, fun _ _ => rfl, rfl⟩
theorem asL_to {xs : List AV} {l : LW} (h : AsL xs l) (hp : Heap) : toDV hp (.agg xs) = some (Lk l) := by simp [toDV, h.d, Lk]
theorem orcL {out : LW → List DV} (l : LW) : orcOf (fun l : LW => [Lk l]) (fun _ => True) out [Lk l] = some (out l) :=
  orcOf_eq (enc := fun l : LW => [Lk l]) (x := l) trivial (fun y h => by
    simp only [Lk, List.cons.injEq, DV.g.injEq, and_true] at h
    exact LW.inj h)
theorem l_or {xs : List AV} {l : LW} (h : AsL xs l) {b : Bool} : (!([AV.agg xs] : List AV).any AV.tied || b) = true := by simp [h.t]

def LW.over (l : LW) : Bool := l.found || !(l.code == 0)
noncomputable def over_F := orcOf (fun l : LW => [Lk l]) (fun _ => True) (fun l => [Bo l.over])
instance (xs : List AV) (l : LW) [h : AsL xs l] : Tells over_F [.agg xs] (.d (.bool l.over)) := ⟨[Lk l], [Bo l.over], fun hp => by simp only [toDVs, asL_to h], orcL l, rfl, l_or h, fun N M => by simp [AV.lows, h.l]⟩
theorem look_Over : Pure Try.prog 41 over_F := by
  refine con (T := tbl []) (tbl_ok (by simp)) rfl rfl fun l _ => ⟨rfl, ?_⟩
  simp [cf41, Lk_av, -getElem?_pos, LW.cs, LW.over]
  all_goals (try (first | refine WLV_splitN (fun hs => ?_) (fun hs => ?_) | refine WLC_splitN (fun hs => ?_) (fun hs => ?_) | refine WLB_splitN (fun hs => ?_) (fun hs => ?_) | refine WLPV_splitN (fun hs => ?_) (fun hs => ?_) | refine WLPC_splitN (fun hs => ?_) (fun hs => ?_) | refine WLPV_split (fun hs => ?_) (fun hs => ?_) | refine WLPC_split (fun hs => ?_) (fun hs => ?_) | refine WLV_split (fun hs => ?_) (fun hs => ?_) | refine WLC_split (fun hs => ?_) (fun hs => ?_) | refine WLB_split (fun hs => ?_) (fun hs => ?_)))
  all_goals (try (have hs' := hs; simp at hs'))
  all_goals (try simp [*, -getElem?_pos])
noncomputable abbrev look_Over_F := over_F
theorem garlandref18_Over : Pure Try.prog 42 over_F := by
  refine con (T := tbl []) (tbl_ok (by simp)) rfl rfl fun l _ => ⟨rfl, ?_⟩
  simp [cf42, Lk_av, -getElem?_pos, LW.cs, LW.over]
  all_goals (try (first | refine WLV_splitN (fun hs => ?_) (fun hs => ?_) | refine WLC_splitN (fun hs => ?_) (fun hs => ?_) | refine WLB_splitN (fun hs => ?_) (fun hs => ?_) | refine WLPV_splitN (fun hs => ?_) (fun hs => ?_) | refine WLPC_splitN (fun hs => ?_) (fun hs => ?_) | refine WLPV_split (fun hs => ?_) (fun hs => ?_) | refine WLPC_split (fun hs => ?_) (fun hs => ?_) | refine WLV_split (fun hs => ?_) (fun hs => ?_) | refine WLC_split (fun hs => ?_) (fun hs => ?_) | refine WLB_split (fun hs => ?_) (fun hs => ?_)))
  all_goals (try (have hs' := hs; simp at hs'))
  all_goals (try simp [*, -getElem?_pos])
noncomputable abbrev garlandref18_Over_F := over_F

def LW.right (l : LW) : Bool := isPlace l.key && isPlace l.loc && (decide (0 ≤ l.hops) && decide (l.hops ≤ 41)) && bif decide (40 < l.hops) then l.code == 211 && !l.found else l.code == 0
noncomputable def lright_F := orcOf (fun l : LW => [Lk l]) (fun _ => True) (fun l => [Bo l.right])
instance (xs : List AV) (l : LW) [h : AsL xs l] : Tells lright_F [.agg xs] (.d (.bool l.right)) := ⟨[Lk l], [Bo l.right], fun hp => by simp only [toDVs, asL_to h], orcL l, rfl, l_or h, fun N M => by simp [AV.lows, h.l]⟩
theorem garlandref18_Right : Pure Try.prog 40 lright_F := by
  refine con (T := tbl []) (tbl_ok (by simp)) rfl rfl fun l _ => ⟨rfl, ?_⟩
  obtain ⟨key, loc, hops, slow, found, code⟩ := l
  simp [cf40, Lk_av, -getElem?_pos, LW.cs]
  all_goals (try (first | refine WLV_splitN (fun hs => ?_) (fun hs => ?_) | refine WLC_splitN (fun hs => ?_) (fun hs => ?_) | refine WLB_splitN (fun hs => ?_) (fun hs => ?_) | refine WLPV_splitN (fun hs => ?_) (fun hs => ?_) | refine WLPC_splitN (fun hs => ?_) (fun hs => ?_) | refine WLPV_split (fun hs => ?_) (fun hs => ?_) | refine WLPC_split (fun hs => ?_) (fun hs => ?_) | refine WLV_split (fun hs => ?_) (fun hs => ?_) | refine WLC_split (fun hs => ?_) (fun hs => ?_) | refine WLB_split (fun hs => ?_) (fun hs => ?_)))
  all_goals (try (have hs' := hs; simp at hs'))
  all_goals (try simp [*, -getElem?_pos])
  all_goals (try (first | refine WLV_splitN (fun hs => ?_) (fun hs => ?_) | refine WLC_splitN (fun hs => ?_) (fun hs => ?_) | refine WLB_splitN (fun hs => ?_) (fun hs => ?_) | refine WLPV_splitN (fun hs => ?_) (fun hs => ?_) | refine WLPC_splitN (fun hs => ?_) (fun hs => ?_) | refine WLPV_split (fun hs => ?_) (fun hs => ?_) | refine WLPC_split (fun hs => ?_) (fun hs => ?_) | refine WLV_split (fun hs => ?_) (fun hs => ?_) | refine WLC_split (fun hs => ?_) (fun hs => ?_) | refine WLB_split (fun hs => ?_) (fun hs => ?_)))
  all_goals (try (have hs' := hs; simp at hs'))
  all_goals (try simp [*, -getElem?_pos])
  all_goals (try (first | refine WLV_splitN (fun hs => ?_) (fun hs => ?_) | refine WLC_splitN (fun hs => ?_) (fun hs => ?_) | refine WLB_splitN (fun hs => ?_) (fun hs => ?_) | refine WLPV_splitN (fun hs => ?_) (fun hs => ?_) | refine WLPC_splitN (fun hs => ?_) (fun hs => ?_) | refine WLPV_split (fun hs => ?_) (fun hs => ?_) | refine WLPC_split (fun hs => ?_) (fun hs => ?_) | refine WLV_split (fun hs => ?_) (fun hs => ?_) | refine WLC_split (fun hs => ?_) (fun hs => ?_) | refine WLB_split (fun hs => ?_) (fun hs => ?_)))
  all_goals (try (have hs' := hs; simp at hs'))
  all_goals (try simp [*, -getElem?_pos])
  all_goals (try (first | refine WLV_splitN (fun hs => ?_) (fun hs => ?_) | refine WLC_splitN (fun hs => ?_) (fun hs => ?_) | refine WLB_splitN (fun hs => ?_) (fun hs => ?_) | refine WLPV_splitN (fun hs => ?_) (fun hs => ?_) | refine WLPC_splitN (fun hs => ?_) (fun hs => ?_) | refine WLPV_split (fun hs => ?_) (fun hs => ?_) | refine WLPC_split (fun hs => ?_) (fun hs => ?_) | refine WLV_split (fun hs => ?_) (fun hs => ?_) | refine WLC_split (fun hs => ?_) (fun hs => ?_) | refine WLB_split (fun hs => ?_) (fun hs => ?_)))
  all_goals (try (have hs' := hs; simp at hs'))
  all_goals (try simp [*, -getElem?_pos])
  all_goals (try (first | refine WLV_splitN (fun hs => ?_) (fun hs => ?_) | refine WLC_splitN (fun hs => ?_) (fun hs => ?_) | refine WLB_splitN (fun hs => ?_) (fun hs => ?_) | refine WLPV_splitN (fun hs => ?_) (fun hs => ?_) | refine WLPC_splitN (fun hs => ?_) (fun hs => ?_) | refine WLPV_split (fun hs => ?_) (fun hs => ?_) | refine WLPC_split (fun hs => ?_) (fun hs => ?_) | refine WLV_split (fun hs => ?_) (fun hs => ?_) | refine WLC_split (fun hs => ?_) (fun hs => ?_) | refine WLB_split (fun hs => ?_) (fun hs => ?_)))
  all_goals (try (have hs' := hs; simp at hs'))
  all_goals (try simp [*, -getElem?_pos])
  all_goals (try (first | refine WLV_splitN (fun hs => ?_) (fun hs => ?_) | refine WLC_splitN (fun hs => ?_) (fun hs => ?_) | refine WLB_splitN (fun hs => ?_) (fun hs => ?_) | refine WLPV_splitN (fun hs => ?_) (fun hs => ?_) | refine WLPC_splitN (fun hs => ?_) (fun hs => ?_) | refine WLPV_split (fun hs => ?_) (fun hs => ?_) | refine WLPC_split (fun hs => ?_) (fun hs => ?_) | refine WLV_split (fun hs => ?_) (fun hs => ?_) | refine WLC_split (fun hs => ?_) (fun hs => ?_) | refine WLB_split (fun hs => ?_) (fun hs => ?_)))
  all_goals (try (have hs' := hs; simp at hs'))
  all_goals (try simp [*, -getElem?_pos])
  all_goals (try (first | refine WLV_splitN (fun hs => ?_) (fun hs => ?_) | refine WLC_splitN (fun hs => ?_) (fun hs => ?_) | refine WLB_splitN (fun hs => ?_) (fun hs => ?_) | refine WLPV_splitN (fun hs => ?_) (fun hs => ?_) | refine WLPC_splitN (fun hs => ?_) (fun hs => ?_) | refine WLPV_split (fun hs => ?_) (fun hs => ?_) | refine WLPC_split (fun hs => ?_) (fun hs => ?_) | refine WLV_split (fun hs => ?_) (fun hs => ?_) | refine WLC_split (fun hs => ?_) (fun hs => ?_) | refine WLB_split (fun hs => ?_) (fun hs => ?_)))
  all_goals (try (have hs' := hs; simp at hs'))
  all_goals (try simp [*, -getElem?_pos])
  all_goals (try (first | refine WLV_splitN (fun hs => ?_) (fun hs => ?_) | refine WLC_splitN (fun hs => ?_) (fun hs => ?_) | refine WLB_splitN (fun hs => ?_) (fun hs => ?_) | refine WLPV_splitN (fun hs => ?_) (fun hs => ?_) | refine WLPC_splitN (fun hs => ?_) (fun hs => ?_) | refine WLPV_split (fun hs => ?_) (fun hs => ?_) | refine WLPC_split (fun hs => ?_) (fun hs => ?_) | refine WLV_split (fun hs => ?_) (fun hs => ?_) | refine WLC_split (fun hs => ?_) (fun hs => ?_) | refine WLB_split (fun hs => ?_) (fun hs => ?_)))
  all_goals (try (have hs' := hs; simp at hs'))
  all_goals (try simp [*, -getElem?_pos])
  all_goals (try (first | refine WLV_splitN (fun hs => ?_) (fun hs => ?_) | refine WLC_splitN (fun hs => ?_) (fun hs => ?_) | refine WLB_splitN (fun hs => ?_) (fun hs => ?_) | refine WLPV_splitN (fun hs => ?_) (fun hs => ?_) | refine WLPC_splitN (fun hs => ?_) (fun hs => ?_) | refine WLPV_split (fun hs => ?_) (fun hs => ?_) | refine WLPC_split (fun hs => ?_) (fun hs => ?_) | refine WLV_split (fun hs => ?_) (fun hs => ?_) | refine WLC_split (fun hs => ?_) (fun hs => ?_) | refine WLB_split (fun hs => ?_) (fun hs => ?_)))
  all_goals (try (have hs' := hs; simp at hs'))
  all_goals (try simp [*, -getElem?_pos])
  all_goals (simp [LW.right, isPlace, *]; try omega)
noncomputable abbrev garlandref18_Right_F := lright_F
theorem look_place : Pure Try.prog 90 isPlace_F := by
  refine con (T := tbl []) (tbl_ok (by simp)) rfl rfl fun n _ => ⟨rfl, ?_⟩
  simp [cf90, -getElem?_pos, isPlace]
  all_goals (try (first | refine WLV_splitN (fun hs => ?_) (fun hs => ?_) | refine WLC_splitN (fun hs => ?_) (fun hs => ?_) | refine WLB_splitN (fun hs => ?_) (fun hs => ?_) | refine WLPV_splitN (fun hs => ?_) (fun hs => ?_) | refine WLPC_splitN (fun hs => ?_) (fun hs => ?_) | refine WLPV_split (fun hs => ?_) (fun hs => ?_) | refine WLPC_split (fun hs => ?_) (fun hs => ?_) | refine WLV_split (fun hs => ?_) (fun hs => ?_) | refine WLC_split (fun hs => ?_) (fun hs => ?_) | refine WLB_split (fun hs => ?_) (fun hs => ?_)))
  all_goals (try (have hs' := hs; simp at hs'))
  all_goals (try simp [*, -getElem?_pos])
  all_goals (try omega)
noncomputable abbrev look_place_F := isPlace_F
noncomputable def TLK : Tbl := tbl [(90, look_place_F)]
theorem TLK_ok : TblOK Try.prog TLK := tbl_ok (by
  simp only [List.mem_cons, List.not_mem_nil, or_false]
  rintro p (rfl)
  · exact look_place)
instance : Has TLK 90 look_place_F := ⟨rfl⟩

def recM (e0 : Env) : LRec := ⟨[6], (.reg (⟨(some 3), .mv (.t 6), none⟩ ::
    [])), (.block 1 (.seq (.reg (⟨(some 7), .mv (.t 3), none⟩ ::
    ⟨(some 8), .not (.t 7), none⟩ ::
    []))
  (.cond (.t 8) (.goto 0) .skip))), e0⟩
theorem look_Right : Pure Try.prog 39 lright_F := by
  refine con TLK_ok rfl rfl fun l _ => ⟨rfl, ?_⟩
  obtain ⟨key, loc, hops, slow, found, code⟩ := l
  simp [cf39, Lk_av, -getElem?_pos, LW.cs]
  refine WLC_fn (cf := cf69) rfl rfl rfl ?_
  simp [cf69, afterC, -getElem?_pos]
  refine WL_range (cf := cf89) rfl rfl rfl rfl ?_
  simp [cf89, -getElem?_pos]
  all_goals (try (first | refine WLV_splitN (fun hs => ?_) (fun hs => ?_) | refine WLC_splitN (fun hs => ?_) (fun hs => ?_) | refine WLB_splitN (fun hs => ?_) (fun hs => ?_) | refine WLPV_splitN (fun hs => ?_) (fun hs => ?_) | refine WLPC_splitN (fun hs => ?_) (fun hs => ?_) | refine WLPV_split (fun hs => ?_) (fun hs => ?_) | refine WLPC_split (fun hs => ?_) (fun hs => ?_) | refine WLV_split (fun hs => ?_) (fun hs => ?_) | refine WLC_split (fun hs => ?_) (fun hs => ?_) | refine WLB_split (fun hs => ?_) (fun hs => ?_)))
  all_goals (try (have hs' := hs; simp at hs'))
  all_goals (try simp [*, -getElem?_pos])
  all_goals (
    refine WLC_yld (r := recM _) rfl rfl rfl ?_
    simp [recM, bindPs, -getElem?_pos])
  all_goals (try (first | refine WLV_splitN (fun hs => ?_) (fun hs => ?_) | refine WLC_splitN (fun hs => ?_) (fun hs => ?_) | refine WLB_splitN (fun hs => ?_) (fun hs => ?_) | refine WLPV_splitN (fun hs => ?_) (fun hs => ?_) | refine WLPC_splitN (fun hs => ?_) (fun hs => ?_) | refine WLPV_split (fun hs => ?_) (fun hs => ?_) | refine WLPC_split (fun hs => ?_) (fun hs => ?_) | refine WLV_split (fun hs => ?_) (fun hs => ?_) | refine WLC_split (fun hs => ?_) (fun hs => ?_) | refine WLB_split (fun hs => ?_) (fun hs => ?_)))
  all_goals (try (have hs' := hs; simp at hs'))
  all_goals (try simp [*, -getElem?_pos, afterY])
  all_goals (try (first | refine WLV_splitN (fun hs => ?_) (fun hs => ?_) | refine WLC_splitN (fun hs => ?_) (fun hs => ?_) | refine WLB_splitN (fun hs => ?_) (fun hs => ?_) | refine WLPV_splitN (fun hs => ?_) (fun hs => ?_) | refine WLPC_splitN (fun hs => ?_) (fun hs => ?_) | refine WLPV_split (fun hs => ?_) (fun hs => ?_) | refine WLPC_split (fun hs => ?_) (fun hs => ?_) | refine WLV_split (fun hs => ?_) (fun hs => ?_) | refine WLC_split (fun hs => ?_) (fun hs => ?_) | refine WLB_split (fun hs => ?_) (fun hs => ?_)))
  all_goals (try (have hs' := hs; simp at hs'))
  all_goals (try simp [*, -getElem?_pos, afterY])
  all_goals (try (first | refine WLV_splitN (fun hs => ?_) (fun hs => ?_) | refine WLC_splitN (fun hs => ?_) (fun hs => ?_) | refine WLB_splitN (fun hs => ?_) (fun hs => ?_) | refine WLPV_splitN (fun hs => ?_) (fun hs => ?_) | refine WLPC_splitN (fun hs => ?_) (fun hs => ?_) | refine WLPV_split (fun hs => ?_) (fun hs => ?_) | refine WLPC_split (fun hs => ?_) (fun hs => ?_) | refine WLV_split (fun hs => ?_) (fun hs => ?_) | refine WLC_split (fun hs => ?_) (fun hs => ?_) | refine WLB_split (fun hs => ?_) (fun hs => ?_)))
  all_goals (try (have hs' := hs; simp at hs'))
  all_goals (try simp [*, -getElem?_pos, afterY])
  all_goals try (
    refine WLC_yld (r := recM _) rfl rfl rfl ?_
    simp [recM, bindPs, -getElem?_pos])
  all_goals (try (first | refine WLV_splitN (fun hs => ?_) (fun hs => ?_) | refine WLC_splitN (fun hs => ?_) (fun hs => ?_) | refine WLB_splitN (fun hs => ?_) (fun hs => ?_) | refine WLPV_splitN (fun hs => ?_) (fun hs => ?_) | refine WLPC_splitN (fun hs => ?_) (fun hs => ?_) | refine WLPV_split (fun hs => ?_) (fun hs => ?_) | refine WLPC_split (fun hs => ?_) (fun hs => ?_) | refine WLV_split (fun hs => ?_) (fun hs => ?_) | refine WLC_split (fun hs => ?_) (fun hs => ?_) | refine WLB_split (fun hs => ?_) (fun hs => ?_)))
  all_goals (try (have hs' := hs; simp at hs'))
  all_goals (try simp [*, -getElem?_pos, afterY])
  all_goals (try (first | refine WLV_splitN (fun hs => ?_) (fun hs => ?_) | refine WLC_splitN (fun hs => ?_) (fun hs => ?_) | refine WLB_splitN (fun hs => ?_) (fun hs => ?_) | refine WLPV_splitN (fun hs => ?_) (fun hs => ?_) | refine WLPC_splitN (fun hs => ?_) (fun hs => ?_) | refine WLPV_split (fun hs => ?_) (fun hs => ?_) | refine WLPC_split (fun hs => ?_) (fun hs => ?_) | refine WLV_split (fun hs => ?_) (fun hs => ?_) | refine WLC_split (fun hs => ?_) (fun hs => ?_) | refine WLB_split (fun hs => ?_) (fun hs => ?_)))
  all_goals (try (have hs' := hs; simp at hs'))
  all_goals (try simp [*, -getElem?_pos, afterY])
  all_goals try (
    refine WLC_yld (r := recM _) rfl rfl rfl ?_
    simp [recM, bindPs, -getElem?_pos])
  all_goals (try (first | refine WLV_splitN (fun hs => ?_) (fun hs => ?_) | refine WLC_splitN (fun hs => ?_) (fun hs => ?_) | refine WLB_splitN (fun hs => ?_) (fun hs => ?_) | refine WLPV_splitN (fun hs => ?_) (fun hs => ?_) | refine WLPC_splitN (fun hs => ?_) (fun hs => ?_) | refine WLPV_split (fun hs => ?_) (fun hs => ?_) | refine WLPC_split (fun hs => ?_) (fun hs => ?_) | refine WLV_split (fun hs => ?_) (fun hs => ?_) | refine WLC_split (fun hs => ?_) (fun hs => ?_) | refine WLB_split (fun hs => ?_) (fun hs => ?_)))
  all_goals (try (have hs' := hs; simp at hs'))
  all_goals (try simp [*, -getElem?_pos, afterY])
  all_goals (try (first | refine WLV_splitN (fun hs => ?_) (fun hs => ?_) | refine WLC_splitN (fun hs => ?_) (fun hs => ?_) | refine WLB_splitN (fun hs => ?_) (fun hs => ?_) | refine WLPV_splitN (fun hs => ?_) (fun hs => ?_) | refine WLPC_splitN (fun hs => ?_) (fun hs => ?_) | refine WLPV_split (fun hs => ?_) (fun hs => ?_) | refine WLPC_split (fun hs => ?_) (fun hs => ?_) | refine WLV_split (fun hs => ?_) (fun hs => ?_) | refine WLC_split (fun hs => ?_) (fun hs => ?_) | refine WLB_split (fun hs => ?_) (fun hs => ?_)))
  all_goals (try (have hs' := hs; simp at hs'))
  all_goals (try simp [*, -getElem?_pos, afterY])
  all_goals try (
    refine WLC_yld (r := recM _) rfl rfl rfl ?_
    simp [recM, bindPs, -getElem?_pos])
  all_goals (try (first | refine WLV_splitN (fun hs => ?_) (fun hs => ?_) | refine WLC_splitN (fun hs => ?_) (fun hs => ?_) | refine WLB_splitN (fun hs => ?_) (fun hs => ?_) | refine WLPV_splitN (fun hs => ?_) (fun hs => ?_) | refine WLPC_splitN (fun hs => ?_) (fun hs => ?_) | refine WLPV_split (fun hs => ?_) (fun hs => ?_) | refine WLPC_split (fun hs => ?_) (fun hs => ?_) | refine WLV_split (fun hs => ?_) (fun hs => ?_) | refine WLC_split (fun hs => ?_) (fun hs => ?_) | refine WLB_split (fun hs => ?_) (fun hs => ?_)))
  all_goals (try (have hs' := hs; simp at hs'))
  all_goals (try simp [*, -getElem?_pos, afterY])
  all_goals (try (first | refine WLV_splitN (fun hs => ?_) (fun hs => ?_) | refine WLC_splitN (fun hs => ?_) (fun hs => ?_) | refine WLB_splitN (fun hs => ?_) (fun hs => ?_) | refine WLPV_splitN (fun hs => ?_) (fun hs => ?_) | refine WLPC_splitN (fun hs => ?_) (fun hs => ?_) | refine WLPV_split (fun hs => ?_) (fun hs => ?_) | refine WLPC_split (fun hs => ?_) (fun hs => ?_) | refine WLV_split (fun hs => ?_) (fun hs => ?_) | refine WLC_split (fun hs => ?_) (fun hs => ?_) | refine WLB_split (fun hs => ?_) (fun hs => ?_)))
  all_goals (try (have hs' := hs; simp at hs'))
  all_goals (try simp [*, -getElem?_pos, afterY])
  all_goals try (
    refine WLC_yld (r := recM _) rfl rfl rfl ?_
    simp [recM, bindPs, -getElem?_pos])
  all_goals (try (first | refine WLV_splitN (fun hs => ?_) (fun hs => ?_) | refine WLC_splitN (fun hs => ?_) (fun hs => ?_) | refine WLB_splitN (fun hs => ?_) (fun hs => ?_) | refine WLPV_splitN (fun hs => ?_) (fun hs => ?_) | refine WLPC_splitN (fun hs => ?_) (fun hs => ?_) | refine WLPV_split (fun hs => ?_) (fun hs => ?_) | refine WLPC_split (fun hs => ?_) (fun hs => ?_) | refine WLV_split (fun hs => ?_) (fun hs => ?_) | refine WLC_split (fun hs => ?_) (fun hs => ?_) | refine WLB_split (fun hs => ?_) (fun hs => ?_)))
  all_goals (try (have hs' := hs; simp at hs'))
  all_goals (try simp [*, -getElem?_pos, afterY])
  all_goals (try (first | refine WLV_splitN (fun hs => ?_) (fun hs => ?_) | refine WLC_splitN (fun hs => ?_) (fun hs => ?_) | refine WLB_splitN (fun hs => ?_) (fun hs => ?_) | refine WLPV_splitN (fun hs => ?_) (fun hs => ?_) | refine WLPC_splitN (fun hs => ?_) (fun hs => ?_) | refine WLPV_split (fun hs => ?_) (fun hs => ?_) | refine WLPC_split (fun hs => ?_) (fun hs => ?_) | refine WLV_split (fun hs => ?_) (fun hs => ?_) | refine WLC_split (fun hs => ?_) (fun hs => ?_) | refine WLB_split (fun hs => ?_) (fun hs => ?_)))
  all_goals (try (have hs' := hs; simp at hs'))
  all_goals (try simp [*, -getElem?_pos, afterY])
  all_goals (
    simp [afterR, -getElem?_pos]
    try (
      refine onGt_go (rest := (.seq .skip (.seq (.reg (⟨(some 2), .mv (.c (.d (.bool false))), none⟩ ::
    []))
  .ret))) rfl ?_
      simp [-getElem?_pos]))
  all_goals first
    | (simp [LW.right, *]; done)
    | (by_cases hh : 40 < hops <;> simp [LW.right, *] <;> omega)
noncomputable abbrev look_Right_F := lright_F

def LW.on (v : VW) (l : LW) (p : Int) (o : Bool) : LW := bif p == v.id && !o then { l with loc := (v.next l.key l.slow).1, found := (v.next l.key l.slow).2 } else { l with loc := p, found := o }
noncomputable def on_F := orcOf (fun q : VW × LW × Int × Bool => [V q.1, Lk q.2.1, I q.2.2.1, Bo q.2.2.2]) (fun _ => True) (fun q => [Lk (q.2.1.on q.1 q.2.2.1 q.2.2.2)])
instance (v : VW) (xs : List AV) (l : LW) (p : Int) (o : Bool) [h : AsL xs l] : Tells on_F [.agg v.cs, .agg xs, .d (.int .i64 p), .d (.bool o)] (.agg (l.on v p o).cs) :=
  ⟨[V v, Lk l, I p, Bo o], [Lk (l.on v p o)], fun hp => by simp only [toDVs, toV, asL_to h]; rfl, orcOf_eq (enc := fun q : VW × LW × Int × Bool => [V q.1, Lk q.2.1, I q.2.2.1, Bo q.2.2.2]) (x := (v, l, p, o)) trivial (fun y hy => by
    simp only [V, Lk, I, Bo, List.cons.injEq, DV.g.injEq, DV.s.injEq, Dat.int.injEq, Dat.bool.injEq, true_and, and_true] at hy
    exact Prod.ext (VW.inj hy.1) (Prod.ext (LW.inj hy.2.1) (Prod.ext hy.2.2.1 hy.2.2.2))), rfl, by simp [h.t, cs_tied, AV.tied], fun N M => by simp [AV.lows, h.l, cs_lows]⟩
noncomputable def TON : Tbl := tbl [(16, garlandref16_Next_F)]
theorem TON_ok : TblOK Try.prog TON := tbl_ok (by
  simp only [List.mem_cons, List.not_mem_nil, or_false]
  rintro p (rfl)
  · exact garlandref16_Next)
instance : Has TON 16 garlandref16_Next_F := ⟨rfl⟩

theorem garlandref18_on : Pure Try.prog 68 on_F := by
  refine con TON_ok rfl rfl fun ⟨v, l, p, o⟩ _ => ⟨rfl, ?_⟩
  obtain ⟨key, loc, hops, slow, found, code⟩ := l
  simp [cf68, V_av, Lk_av, -getElem?_pos, LW.cs, cs_0, cs_length, cs_take, cs_all, cs_lows]
  all_goals (try (first | refine WLV_splitN (fun hs => ?_) (fun hs => ?_) | refine WLC_splitN (fun hs => ?_) (fun hs => ?_) | refine WLB_splitN (fun hs => ?_) (fun hs => ?_) | refine WLPV_splitN (fun hs => ?_) (fun hs => ?_) | refine WLPC_splitN (fun hs => ?_) (fun hs => ?_) | refine WLPV_split (fun hs => ?_) (fun hs => ?_) | refine WLPC_split (fun hs => ?_) (fun hs => ?_) | refine WLV_split (fun hs => ?_) (fun hs => ?_) | refine WLC_split (fun hs => ?_) (fun hs => ?_) | refine WLB_split (fun hs => ?_) (fun hs => ?_)))
  all_goals (try (have hs' := hs; simp at hs'))
  all_goals (try simp [*, -getElem?_pos, cs_0, cs_length, cs_take, cs_all, cs_lows, LW.cs])
  all_goals (try (first | refine WLV_splitN (fun hs => ?_) (fun hs => ?_) | refine WLC_splitN (fun hs => ?_) (fun hs => ?_) | refine WLB_splitN (fun hs => ?_) (fun hs => ?_) | refine WLPV_splitN (fun hs => ?_) (fun hs => ?_) | refine WLPC_splitN (fun hs => ?_) (fun hs => ?_) | refine WLPV_split (fun hs => ?_) (fun hs => ?_) | refine WLPC_split (fun hs => ?_) (fun hs => ?_) | refine WLV_split (fun hs => ?_) (fun hs => ?_) | refine WLC_split (fun hs => ?_) (fun hs => ?_) | refine WLB_split (fun hs => ?_) (fun hs => ?_)))
  all_goals (try (have hs' := hs; simp at hs'))
  all_goals (try simp [*, -getElem?_pos, cs_0, cs_length, cs_take, cs_all, cs_lows, LW.cs])
  all_goals (refine ⟨_, rfl, ?_⟩; simp [LW.on, Lk, LW.dats, *])
noncomputable abbrev garlandref18_on_F := on_F
noncomputable def TON2 : Tbl := tbl [(15, hop_Next_F)]
theorem TON2_ok : TblOK Try.prog TON2 := tbl_ok (by
  simp only [List.mem_cons, List.not_mem_nil, or_false]
  rintro p (rfl)
  · exact hop_Next)
instance : Has TON2 15 hop_Next_F := ⟨rfl⟩

theorem look_on : Pure Try.prog 67 on_F := by
  refine con TON2_ok rfl rfl fun ⟨v, l, p, o⟩ _ => ⟨rfl, ?_⟩
  obtain ⟨key, loc, hops, slow, found, code⟩ := l
  simp [cf67, V_av, Lk_av, -getElem?_pos, LW.cs, cs_0, cs_length, cs_take, cs_all, cs_lows]
  all_goals (try (first | refine WLV_splitN (fun hs => ?_) (fun hs => ?_) | refine WLC_splitN (fun hs => ?_) (fun hs => ?_) | refine WLB_splitN (fun hs => ?_) (fun hs => ?_) | refine WLPV_splitN (fun hs => ?_) (fun hs => ?_) | refine WLPC_splitN (fun hs => ?_) (fun hs => ?_) | refine WLPV_split (fun hs => ?_) (fun hs => ?_) | refine WLPC_split (fun hs => ?_) (fun hs => ?_) | refine WLV_split (fun hs => ?_) (fun hs => ?_) | refine WLC_split (fun hs => ?_) (fun hs => ?_) | refine WLB_split (fun hs => ?_) (fun hs => ?_)))
  all_goals (try (have hs' := hs; simp at hs'))
  all_goals (try simp [*, -getElem?_pos, cs_0, cs_length, cs_take, cs_all, cs_lows, LW.cs])
  all_goals (try (first | refine WLV_splitN (fun hs => ?_) (fun hs => ?_) | refine WLC_splitN (fun hs => ?_) (fun hs => ?_) | refine WLB_splitN (fun hs => ?_) (fun hs => ?_) | refine WLPV_splitN (fun hs => ?_) (fun hs => ?_) | refine WLPC_splitN (fun hs => ?_) (fun hs => ?_) | refine WLPV_split (fun hs => ?_) (fun hs => ?_) | refine WLPC_split (fun hs => ?_) (fun hs => ?_) | refine WLV_split (fun hs => ?_) (fun hs => ?_) | refine WLC_split (fun hs => ?_) (fun hs => ?_) | refine WLB_split (fun hs => ?_) (fun hs => ?_)))
  all_goals (try (have hs' := hs; simp at hs'))
  all_goals (try simp [*, -getElem?_pos, cs_0, cs_length, cs_take, cs_all, cs_lows, LW.cs])
  all_goals try (
    refine WLC_fn (cf := cf88) rfl rfl rfl ?_
    simp [cf88, afterC, -getElem?_pos, cs_0, cs_length, cs_take, cs_all, cs_lows, LW.cs])
  all_goals (refine ⟨_, rfl, ?_⟩; simp [LW.on, Lk, LW.dats, *])
noncomputable abbrev look_on_F := on_F
end Go.Proofs.Ytbeocehhclfbiaa.Lite
namespace Go.Proofs.Ytbeocehhclfbiaa.Lite
open Go Go.RowKit

theorem law_calls {f : Nat} {F : List DV → Option (List DV)} (hp : Pure Try.prog f F) {W : World} {args : Array Value} {dvs : List DV} (hF : F dvs = some [Bo true]) (hz : args.size = dvs.length)
    (ha : ∀ (j : Nat) d v, dvs[j]? = some d → args[j]? = some v → DVRel (Sall W) W d v) : Calls Try.prog f args W (fun e W' => e = .returned (.bool true) ∧ Below W.heap.size W W') := by
  rw [← callsIn_wide (n := 0)]
  refine (hp.calls (Sall W) W args dvs _ hF hz ha fun b o h => h).mono ?_
  rintro e W' ⟨v, S', rfl, hk, ho⟩
  refine ⟨?_, hk.os, hk.tape, hk.output, hk.size, hk.blk⟩
  rcases ho with ⟨d, hd, hv⟩ | ⟨hne, _⟩
  · cases hd; cases hv; rfl
  · exact absurd rfl hne

theorem orcOf_const {α : Type} {enc : α → List DV} {ok : α → Prop} {c : List DV} {x : α} (hx : ok x) : orcOf enc ok (fun _ => c) (enc x) = some c := by
  unfold orcOf
  rw [dif_pos ⟨x, hx, rfl⟩]
def RelAll (W : World) (ds : List DV) (vs : List Value) : Prop := ∀ (j : Nat) d v, ds[j]? = some d → vs[j]? = some v → DVRel (Sall W) W d v
theorem rel_nil {W : World} : RelAll W [] [] := fun j d v h => by simp at h
theorem rel_cons {W : World} {d : DV} {v : Value} {ds : List DV} {vs : List Value} (h : DVRel (Sall W) W d v) (hs : RelAll W ds vs) : RelAll W (d :: ds) (v :: vs) := by
  intro j d' v' hd hv
  cases j with
  | zero => simp at hd hv; subst hd hv; exact h
  | succ j => simp at hd hv; exact hs j d' v' hd hv
theorem law_holds {f : Nat} {F : List DV → Option (List DV)} (hp : Pure Try.prog f F) {W : World} {vs : List Value} {dvs : List DV} (hF : F dvs = some [Bo true]) (hz : vs.length = dvs.length)
    (ha : RelAll W dvs vs) : Calls Try.prog f vs.toArray W (fun e W' => e = .returned (.bool true) ∧ Below W.heap.size W W') :=
  law_calls hp hF (by simpa using hz) fun j d v hd hv => ha j d v hd (by simpa using hv)

def isStruct (P : Program) (t : TypeId) : Bool := match P.underlying t with
  | some (.struct _) => true
  | _ => false
theorem agg_of {P : Program} {w : World} {r : Reach} {base : Nat} {t : TypeId} {v : Value} (ht : isStruct P t = true) (h : Value.okWide P w r base t v) : ∃ cs, v = .agg cs := by
  unfold isStruct at ht
  split at ht
  · rename_i fs hu
    obtain ⟨cs, h1, _⟩ := Go.WideShapes.okWide_struct hu h
    exact ⟨cs, h1⟩
  · cases ht
def isInt (P : Program) (t : TypeId) : Bool := match P.underlying t with
  | some (.int .i64) => true
  | _ => false
def isBool (P : Program) (t : TypeId) : Bool := match P.underlying t with
  | some .bool => true
  | _ => false
def isStr (P : Program) (t : TypeId) : Bool := match P.underlying t with
  | some .string => true
  | _ => false
def isSl (P : Program) (t : TypeId) : Bool := match P.underlying t with
  | some (.slice _) => true
  | _ => false

section
variable {H : Type} {enc : TypeId × Value → H} {P : Program} {w : World} {r : Reach} {base : Nat} {spare : Nat → Bool} {held : Bool} {t : TypeId} {v : Value} {d : DataW H} {ps : List MemPlace}
theorem open_I (ht : isInt P t = true) (hv : Value.okWide P w r base t v) (h : DataW.Trod enc P w 0 spare held t v d ps) : ∃ n, DVRel (Sall w) w (I n) v ∧ (Lit.int .i64 n).wf = true := by
  unfold isInt at ht
  split at ht
  · rename_i hu
    obtain ⟨n, rfl⟩ := Go.WideShapes.okWide_int hu hv
    obtain ⟨fuel, h⟩ := h
    obtain ⟨m, h1, _, h2⟩ := DataW.trod_int hu h
    simp [Value.cells] at h1
    subst h1
    exact ⟨n, .int _ _, h2⟩
  · cases ht
theorem open_B (ht : isBool P t = true) (hv : Value.okWide P w r base t v) : ∃ b, DVRel (Sall w) w (Bo b) v := by
  unfold isBool at ht
  split at ht
  · rename_i hu
    obtain ⟨n, rfl⟩ := Go.WideShapes.okWide_bool hu hv
    exact ⟨n, .bool _⟩
  · cases ht
theorem open_str (ht : isStr P t = true) (hv : Value.okWide P w r base t v) : ∃ s : List UInt8, DVRel (Sall w) w (.s (.str s)) v := by
  unfold isStr at ht
  split at ht
  · rename_i hu
    obtain ⟨n, rfl⟩ := Go.WideShapes.okWide_string hu hv
    exact ⟨n.data.toList, .str _⟩
  · cases ht
theorem open_agg {ts : List DTy} {m : Nat} (ht : isStruct P t = true) (hf : flatTy P m t = some ts) (hv : Value.okWide P w r base t v) (h : DataW.Trod enc P w 0 spare held t v d ps) : ∃ ds, DVRel (Sall w) w (.g ds) v ∧ ∃ vs, Op w ts ds vs := by
  obtain ⟨arr, rfl⟩ := agg_of ht hv
  obtain ⟨fuel, h⟩ := h
  obtain ⟨ds, hd⟩ := trod_op fuel m t _ _ ts h hf
  refine ⟨ds, ⟨arr, rfl, ?_, fun j x u hx hu => hd.get j x u hx (by simpa [Value.cells] using hu)⟩, _, hd⟩
  have := hd.len
  simp [Value.cells] at this
  omega
theorem open_sl {ts : List DTy} {m : Nat} (ht : isSl P t = true) (hf : flatTy P m t = some [.sl ts]) (hv : Value.okWide P w r base t v) (h : DataW.Trod enc P w 0 spare held t v d ps) : ∃ rows, DVRel (Sall w) w (.s (.sl rows)) v ∧ Ty (.sl ts) (.sl rows) := by
  unfold isSl at ht
  split at ht
  · rename_i hu
    obtain ⟨a, len, cap, rfl⟩ := Go.WideShapes.okWide_slice hu hv
    obtain ⟨fuel, h⟩ := h
    obtain ⟨ds, hd⟩ := trod_op fuel m t _ _ _ h hf
    simp [Value.cells] at hd
    cases hd with
    | cons h1 h2 h3 =>
      cases h1 with
      | sl _ rows hl h1 h2' => exact ⟨rows, h2, .sl _ rows hl h1 h2'⟩
  · cases ht
end

abbrev tI : DTy := .int .i64
abbrev tIs : DTy := .sl [.int .i64]
theorem ints_ty {rows : List (List Dat)} (h : Ty tIs (.sl rows)) : ∃ l : List Int, rows = rowsI l ∧ l.length < 9223372036854775808 := by
  cases h with
  | sl _ _ hl h1 h2 =>
    have key : ∀ rs : List (List Dat), (∀ row ∈ rs, row.length = 1) → (∀ row ∈ rs, ∀ (j : Nat) t d, [DTy.int .i64][j]? = some t → row[j]? = some d → Ty t d) → ∃ l : List Int, rs = rowsI l := by
      intro rs
      induction rs with
      | nil => intro _ _; exact ⟨[], rfl⟩
      | cons a rs ih =>
        intro g1 g2
        obtain ⟨l, rfl⟩ := ih (fun row hr => g1 row (by simp [hr])) (fun row hr => g2 row (by simp [hr]))
        have ha := g1 a (by simp)
        match a, ha with
        | [x], _ =>
          have := g2 [x] (by simp) 0 _ x rfl rfl
          cases this with
          | int k n hw => exact ⟨n :: l, rfl⟩
    obtain ⟨l, rfl⟩ := key rows h1 h2
    refine ⟨l, rfl, ?_⟩
    unfold rowsI maxLen at hl
    rw [List.length_map] at hl
    omega
inductive TyL : List DTy → List Dat → Prop
  | nil : TyL [] []
  | cons {t d ts ds} (h1 : Ty t d) (h : TyL ts ds) : TyL (t :: ts) (d :: ds)
theorem Op.tyL {w : World} {ts : List DTy} {ds : List Dat} {vs : List Value} (h : Op w ts ds vs) : TyL ts ds := by
  induction h with
  | nil => exact .nil
  | cons h1 _ _ ih => exact .cons h1 ih
theorem tyL_of : ∀ {ts : List DTy} {ds : List Dat}, ds.length = ts.length → (∀ (j : Nat) t d, ts[j]? = some t → ds[j]? = some d → Ty t d) → TyL ts ds
  | [], [], _, _ => .nil
  | t :: ts, d :: ds, hl, h => .cons (h 0 t d rfl rfl) (tyL_of (by simpa using hl) fun j t' d' ht hd => h (j + 1) t' d' (by simpa using ht) (by simpa using hd))
theorem op_ints : ∀ (n : Nat) {ds : List Dat}, TyL (List.replicate n tI) ds → ∃ l : List Int, l.length = n ∧ ds = l.map (.int .i64)
  | 0, ds, h => by cases h; exact ⟨[], rfl, rfl⟩
  | n + 1, ds, h => by
    rw [List.replicate_succ] at h
    cases h with
    | cons h1 h =>
      obtain ⟨l, h3, rfl⟩ := op_ints n h
      cases h1 with
      | int k m hw => exact ⟨m :: l, by simp [h3], rfl⟩
def viewTy : List DTy := [tI, tIs, tIs, tI] ++ List.replicate 16 tI
theorem op_view {ds : List Dat} (h : TyL viewTy ds) : ∃ x : VW, ds = x.dats := by
  unfold viewTy at h
  cases h with
  | cons h1 h =>
    cases h with
    | cons h2 h =>
      cases h with
      | cons h3 h =>
        cases h with
        | cons h4 h =>
          obtain ⟨fin, hf, rfl⟩ := op_ints 16 h
          cases h1; cases h4
          cases h2 with
          | sl _ rows ha hb hc =>
            obtain ⟨base, rfl, hbl⟩ := ints_ty (.sl _ rows ha hb hc)
            cases h3 with
            | sl _ rows ha hb hc =>
              obtain ⟨lst, rfl, hll⟩ := ints_ty (.sl _ rows ha hb hc)
              exact ⟨⟨_, base, lst, _, fin, hf, hbl, hll⟩, rfl⟩
def msgTy : List DTy := [.int .u8, tI, tI, tI, tI, .bool, .bool, tI, tI, tIs, .str, tI, tI, .bool, tI]
theorem op_msg {ds : List Dat} (h : TyL msgTy ds) : ∃ x : MW, ds = x.dats ∧ x.call < 9223372036854775808 := by
  unfold msgTy at h
  obtain _ | ⟨h1, h⟩ := h
  obtain _ | ⟨h2, h⟩ := h
  obtain _ | ⟨h3, h⟩ := h
  obtain _ | ⟨h4, h⟩ := h
  obtain _ | ⟨h5, h⟩ := h
  obtain _ | ⟨h6, h⟩ := h
  obtain _ | ⟨h7, h⟩ := h
  obtain _ | ⟨h8, h⟩ := h
  obtain _ | ⟨h9, h⟩ := h
  obtain _ | ⟨h10, h⟩ := h
  obtain _ | ⟨h11, h⟩ := h
  obtain _ | ⟨h12, h⟩ := h
  obtain _ | ⟨h13, h⟩ := h
  obtain _ | ⟨h14, h⟩ := h
  obtain _ | ⟨h15, h⟩ := h
  cases h
  have hc : ∀ d, Ty tI d → ∃ n, d = .int .i64 n ∧ n < 9223372036854775808 := fun d hd => by cases hd with | int k n hw => exact ⟨n, rfl, by have := bounds_i64 hw; omega⟩
  obtain ⟨c, rfl, hcc⟩ := hc _ h2
  cases h1; cases h3; cases h4; cases h5; cases h6; cases h7; cases h8; cases h9; cases h11; cases h12; cases h13; cases h14; cases h15
  cases h10 with
  | sl _ rows ha hb hc =>
    obtain ⟨lst, rfl, hll⟩ := ints_ty (.sl _ rows ha hb hc)
    exact ⟨⟨_, c, _, _, _, _, _, _, _, lst, _, _, _, _, _, hll⟩, rfl, hcc⟩
def lookTy : List DTy := [tI, tI, tI, .bool, .bool, tI]
theorem op_look {ds : List Dat} (h : TyL lookTy ds) : ∃ x : LW, ds = x.dats := by
  unfold lookTy at h
  obtain _ | ⟨h1, h⟩ := h
  obtain _ | ⟨h2, h⟩ := h
  obtain _ | ⟨h3, h⟩ := h
  obtain _ | ⟨h4, h⟩ := h
  obtain _ | ⟨h5, h⟩ := h
  obtain _ | ⟨h6, h⟩ := h
  cases h
  cases h1; cases h2; cases h3; cases h4; cases h5; cases h6
  exact ⟨⟨_, _, _, _, _, _⟩, rfl⟩
section
variable {H : Type} {enc : TypeId × Value → H} {P : Program} {w : World} {r : Reach} {base : Nat} {spare : Nat → Bool} {held : Bool} {t : TypeId} {v : Value} {d : DataW H} {ps : List MemPlace}
theorem open_K {m : Nat} (ht : isStruct P t = true) (hf : flatTy P m t = some lookTy) (hv : Value.okWide P w r base t v) (h : DataW.Trod enc P w 0 spare held t v d ps) : ∃ x : LW, DVRel (Sall w) w (Lk x) v := by
  obtain ⟨ds, h1, vs, h2⟩ := open_agg ht hf hv h
  obtain ⟨x, rfl⟩ := op_look h2.tyL
  exact ⟨x, h1⟩
theorem open_V {m : Nat} (ht : isStruct P t = true) (hf : flatTy P m t = some viewTy) (hv : Value.okWide P w r base t v) (h : DataW.Trod enc P w 0 spare held t v d ps) : ∃ x : VW, DVRel (Sall w) w (V x) v := by
  obtain ⟨ds, h1, vs, h2⟩ := open_agg ht hf hv h
  obtain ⟨x, rfl⟩ := op_view h2.tyL
  exact ⟨x, h1⟩
theorem open_M {m : Nat} (ht : isStruct P t = true) (hf : flatTy P m t = some msgTy) (hv : Value.okWide P w r base t v) (h : DataW.Trod enc P w 0 spare held t v d ps) : ∃ x : MW, DVRel (Sall w) w (Mg x) v ∧ x.call < 9223372036854775808 := by
  obtain ⟨ds, h1, vs, h2⟩ := open_agg ht hf hv h
  obtain ⟨x, rfl, hc⟩ := op_msg h2.tyL
  exact ⟨x, h1, hc⟩
end
theorem own : ownKnob Try.prog.godebug = none := by kernel_rfl
theorem laidOut : laidOutB Try.prog = true := by kernel_rfl
theorem back {H : Type} {enc : TypeId × Value → H} {t : TypeId} (hr : Try.prog.readableRec t = true) (hrow : t < Try.prog.types.size) {W W' : World} {v : Value} {d : DataW H} {ps : List MemPlace}
    (h : DataW.Trod enc Try.prog W 0 (fun _ => true) true t v d ps) (hb : Below W.heap.size W W') : DataW.Trod enc Try.prog W' 0 (fun b => decide (b < W.heap.size)) true t v d ps :=
  Below.trod laidOut hr hrow h hb (by obtain ⟨m, hm⟩ := h; exact DataW.trod_lt m _ _ _ hm)
end Go.Proofs.Ytbeocehhclfbiaa.Lite
namespace Go.Proofs.Ytbeocehhclfbiaa.Lite
open Go
attribute [local simp] WL_of WL_nil WL_blk WL_skip WL_label WL_exit WL_goto WL_seq WL_block WL_cond WL_reg WL_ret WJ_nil WJ_ex WJ_gt WJ_rt WJ_exb WJ_gtb WJ_rtb WLO_nil WLO_call WO_mv WO_pick WO_new WO_box WO_ld WO_ldn WO_st WO_off WO_ixa WO_ixs WO_fld WO_fldn WO_ixv WO_ixvn WO_ixb WO_bin WO_eqb WO_isn WO_eqs WO_not WO_conv WO_mkf WO_bld WO_bls WO_sla WO_sls WO_sl0 WO_len WO_app WO_mnx WO_ext WO_nilc wants_none wants_some wantv_b wantv_t WLV_true WLV_false WLC_false WLB_true WLB_false evX_t evX_c evXs_nil evXs_cons look_put look_putN look_cons look_arg0 look_arg stepK binOpA intOp strOp evRes oneOf outs gc toDV AV.dat? I Bo av_s List.map List.append_nil getO putO AV.cellsOf bne WL_dreg WLP_nil WLP_call WP_mv WP_pick WP_new WP_box WP_ld WP_ldn WP_off WP_ixa WP_ixs WP_fld WP_fldn WP_ixv WP_ixvn WP_ixb WP_bin WP_eqb WP_isn WP_eqs WP_not WP_conv WP_mkf WP_bld WP_bls WP_sla WP_sls WP_sl0 WP_len WP_app WP_mnx WP_ext WP_nilc WLPV_true WLPV_false WLPC_false WLC_tells WLPC_tells padH onNm onEx List.getElem?_cons_zero List.getElem?_cons_succ List.getElem?_nil restrict AV.lows lay AV.isCell lowObj AObj.lows WJ_nm AV.lows.go WL_scope onGt_rt onGt_nm onGt_ex WL_sreg WP_st preSt eraseB List.set_cons_zero List.set_cons_succ

def LW.zero : LW := ⟨0, 0, 0, false, false, 0⟩
def begin18 (v : VW) (key : Int) : LW := bif v.right then LW.on v ⟨place key, 0, 0, false, false, 0⟩ v.id false else LW.zero
noncomputable def begin_F := orcOf (fun q : VW × Int => [V q.1, I q.2]) (fun _ => True) (fun q => [Lk (begin18 q.1 q.2)])
instance (v : VW) (k : Int) : Tells begin_F [.agg v.cs, .d (.int .i64 k)] (.agg (begin18 v k).cs) :=
  ⟨[V v, I k], [Lk (begin18 v k)], fun hp => by simp only [toDVs, toV]; rfl, orcOf_eq (enc := fun q : VW × Int => [V q.1, I q.2]) (x := (v, k)) trivial (fun y hy => by
    simp only [V, I, List.cons.injEq, DV.g.injEq, DV.s.injEq, Dat.int.injEq, true_and, and_true] at hy
    exact Prod.ext (VW.inj hy.1) hy.2), rfl, by simp [cs_tied, AV.tied], fun N M => by simp [AV.lows, cs_lows]⟩
theorem mcsC (m : MW) : m.cs.all AV.isCell = true := rfl
theorem lcs_len (l : LW) : l.cs.length = 6 := rfl
theorem lcs_take (l : LW) : l.cs.take 6 = l.cs := rfl
theorem lcs_cell (l : LW) : l.cs.all AV.isCell = true := rfl
theorem lcs_dats (l : LW) : dats? l.cs = some l.dats := rfl
noncomputable def TBG : Tbl := tbl [(52, view_Right_F), (66, arc_Place_F), (67, look_on_F)]
theorem TBG_ok : TblOK Try.prog TBG := tbl_ok (by
  simp only [List.mem_cons, List.not_mem_nil, or_false]
  rintro p (rfl | rfl | rfl)
  · exact view_Right
  · exact arc_Place
  · exact look_on)
instance : Has TBG 52 view_Right_F := ⟨rfl⟩
instance : Has TBG 66 arc_Place_F := ⟨rfl⟩
instance : Has TBG 67 look_on_F := ⟨rfl⟩

theorem look_Begin : Pure Try.prog 33 begin_F := by
  refine con TBG_ok rfl rfl fun ⟨v, k⟩ _ => ⟨rfl, ?_⟩
  cases hv : v.right with
  | false => simp [cf33, V_av, -getElem?_pos, cs_0, cs_length, cs_take, cs_all, cs_lows, hv]; exact ⟨_, rfl, by simp [begin18, hv]; rfl⟩
  | true => simp [cf33, V_av, -getElem?_pos, cs_0, cs_length, cs_take, cs_all, cs_lows, hv, lcs_len, lcs_take, lcs_cell, lcs_dats, begin18, Lk]
noncomputable abbrev look_Begin_F := begin_F
noncomputable def TBG2 : Tbl := tbl [(24, garlandref13_Right_F), (27, garlandref03_Place_F), (68, garlandref18_on_F)]
theorem TBG2_ok : TblOK Try.prog TBG2 := tbl_ok (by
  simp only [List.mem_cons, List.not_mem_nil, or_false]
  rintro p (rfl | rfl | rfl)
  · exact garlandref13_Right
  · exact garlandref03_Place
  · exact garlandref18_on)
instance : Has TBG2 24 garlandref13_Right_F := ⟨rfl⟩
instance : Has TBG2 27 garlandref03_Place_F := ⟨rfl⟩
instance : Has TBG2 68 garlandref18_on_F := ⟨rfl⟩

theorem garlandref18_Begin : Pure Try.prog 34 begin_F := by
  refine con TBG2_ok rfl rfl fun ⟨v, k⟩ _ => ⟨rfl, ?_⟩
  cases hv : v.right with
  | false => simp [cf34, V_av, -getElem?_pos, cs_0, cs_length, cs_take, cs_all, cs_lows, hv, fillA]; exact ⟨_, rfl, by simp [begin18, hv]; rfl⟩
  | true => simp [cf34, V_av, -getElem?_pos, cs_0, cs_length, cs_take, cs_all, cs_lows, hv, lcs_len, lcs_take, lcs_cell, lcs_dats, begin18, Lk, fillA]
noncomputable abbrev garlandref18_Begin_F := begin_F

def LW.inc (l : LW) : LW := { l with hops := l.hops + 1 }
def LW.bad (l : LW) : LW := { l with hops := l.hops + 1, code := 211 }
def counts (v : VW) (l : LW) (m : MW) : Bool := v.right && l.right && !l.over && m.right && (m.kind == 10) && (m.src == l.loc) && (m.dest == v.id)
def told18 (v : VW) (l : LW) (m : MW) : LW := bif counts v l m then (bif decide (40 < l.hops + 1) then l.bad else l.inc.on v m.place m.fin) else l
noncomputable def told_F := orcOf (fun q : VW × LW × MW => [V q.1, Lk q.2.1, Mg q.2.2]) (fun q => q.2.2.call < 9223372036854775808) (fun q => [Lk (told18 q.1 q.2.1 q.2.2)])
instance (v : VW) (xs ys : List AV) (l : LW) (m : MW) [h : AsL xs l] [h2 : AsM ys m] [hm : Fact (m.call < 9223372036854775808)] : Tells told_F [.agg v.cs, .agg xs, .agg ys] (.agg (told18 v l m).cs) :=
  ⟨[V v, Lk l, Mg m], [Lk (told18 v l m)], fun hp => by simp only [toDVs, toV, asL_to h, asM_to h2], orcOf_eq (enc := fun q : VW × LW × MW => [V q.1, Lk q.2.1, Mg q.2.2]) (x := (v, l, m)) hm.out (fun y hy => by
    simp only [V, Lk, Mg, List.cons.injEq, DV.g.injEq, and_true] at hy
    exact Prod.ext (VW.inj hy.1) (Prod.ext (LW.inj hy.2.1) (MW.inj hy.2.2))), rfl, by simp [h.t, h2.t, cs_tied], fun N M => by simp [AV.lows, h.l, h2.l, cs_lows]⟩
theorem lright_hops {l : LW} (h : l.right = true) : 0 ≤ l.hops ∧ l.hops ≤ 41 := by
  unfold LW.right at h
  simp only [Bool.and_eq_true, decide_eq_true_eq] at h
  exact h.1.2
theorem lwrap {l : LW} (h : l.right = true) : IntKind.i64.wrap (l.hops + 1) = l.hops + 1 := by
  have := lright_hops h
  rw [wrap64]; split <;> omega
noncomputable def TTD : Tbl := tbl [(41, look_Over_F), (55, msg_Right_F), (39, look_Right_F), (52, view_Right_F), (67, look_on_F)]
theorem TTD_ok : TblOK Try.prog TTD := tbl_ok (by
  simp only [List.mem_cons, List.not_mem_nil, or_false]
  rintro p (rfl | rfl | rfl | rfl | rfl)
  · exact look_Over
  · exact msg_Right
  · exact look_Right
  · exact view_Right
  · exact look_on)
instance : Has TTD 41 look_Over_F := ⟨rfl⟩
instance : Has TTD 55 msg_Right_F := ⟨rfl⟩
instance : Has TTD 39 look_Right_F := ⟨rfl⟩
instance : Has TTD 52 view_Right_F := ⟨rfl⟩
instance : Has TTD 67 look_on_F := ⟨rfl⟩

theorem look_Told : Pure Try.prog 35 told_F := by
  refine con TTD_ok rfl rfl fun ⟨v, l, m⟩ hm => ⟨rfl, ?_⟩
  have hm : m.call < 9223372036854775808 := hm
  haveI : Fact (m.call < 9223372036854775808) := ⟨hm⟩
  have hw := fun h : l.right = true => lwrap h
  have hc : counts v l m = (v.right && l.right && !l.over && m.right && (m.kind == 10) && (m.src == l.loc) && (m.dest == v.id)) := rfl
  obtain ⟨key, loc, hops, slow, found, code⟩ := l
  simp only at hw
  simp [cf35, V_av, Lk_av, Mg_av, -getElem?_pos, LW.cs, cs_0, cs_length, cs_take, cs_all, cs_lows, mcs_0, mcs_2, mcs_3, mcs_6, mcs_7, mcs_len, mcs_take, mcs_all, mcs_lows, mcsC]
  all_goals (try (first | refine WLV_splitN (fun hs => ?_) (fun hs => ?_) | refine WLC_splitN (fun hs => ?_) (fun hs => ?_) | refine WLB_splitN (fun hs => ?_) (fun hs => ?_) | refine WLPV_splitN (fun hs => ?_) (fun hs => ?_) | refine WLPC_splitN (fun hs => ?_) (fun hs => ?_) | refine WLPV_split (fun hs => ?_) (fun hs => ?_) | refine WLPC_split (fun hs => ?_) (fun hs => ?_) | refine WLV_split (fun hs => ?_) (fun hs => ?_) | refine WLC_split (fun hs => ?_) (fun hs => ?_) | refine WLB_split (fun hs => ?_) (fun hs => ?_)))
  all_goals (try (have hs' := hs; simp at hs'))
  all_goals (try simp [*, -getElem?_pos, LW.cs, cs_0, cs_length, cs_take, cs_all, cs_lows, mcs_0, mcs_2, mcs_3, mcs_6, mcs_7, mcs_len, mcs_take, mcs_all, mcs_lows, mcsC])
  all_goals (try (first | refine WLV_splitN (fun hs => ?_) (fun hs => ?_) | refine WLC_splitN (fun hs => ?_) (fun hs => ?_) | refine WLB_splitN (fun hs => ?_) (fun hs => ?_) | refine WLPV_splitN (fun hs => ?_) (fun hs => ?_) | refine WLPC_splitN (fun hs => ?_) (fun hs => ?_) | refine WLPV_split (fun hs => ?_) (fun hs => ?_) | refine WLPC_split (fun hs => ?_) (fun hs => ?_) | refine WLV_split (fun hs => ?_) (fun hs => ?_) | refine WLC_split (fun hs => ?_) (fun hs => ?_) | refine WLB_split (fun hs => ?_) (fun hs => ?_)))
  all_goals (try (have hs' := hs; simp at hs'))
  all_goals (try simp [*, -getElem?_pos, LW.cs, cs_0, cs_length, cs_take, cs_all, cs_lows, mcs_0, mcs_2, mcs_3, mcs_6, mcs_7, mcs_len, mcs_take, mcs_all, mcs_lows, mcsC])
  all_goals (try (first | refine WLV_splitN (fun hs => ?_) (fun hs => ?_) | refine WLC_splitN (fun hs => ?_) (fun hs => ?_) | refine WLB_splitN (fun hs => ?_) (fun hs => ?_) | refine WLPV_splitN (fun hs => ?_) (fun hs => ?_) | refine WLPC_splitN (fun hs => ?_) (fun hs => ?_) | refine WLPV_split (fun hs => ?_) (fun hs => ?_) | refine WLPC_split (fun hs => ?_) (fun hs => ?_) | refine WLV_split (fun hs => ?_) (fun hs => ?_) | refine WLC_split (fun hs => ?_) (fun hs => ?_) | refine WLB_split (fun hs => ?_) (fun hs => ?_)))
  all_goals (try (have hs' := hs; simp at hs'))
  all_goals (try simp [*, -getElem?_pos, LW.cs, cs_0, cs_length, cs_take, cs_all, cs_lows, mcs_0, mcs_2, mcs_3, mcs_6, mcs_7, mcs_len, mcs_take, mcs_all, mcs_lows, mcsC])
  all_goals (try (first | refine WLV_splitN (fun hs => ?_) (fun hs => ?_) | refine WLC_splitN (fun hs => ?_) (fun hs => ?_) | refine WLB_splitN (fun hs => ?_) (fun hs => ?_) | refine WLPV_splitN (fun hs => ?_) (fun hs => ?_) | refine WLPC_splitN (fun hs => ?_) (fun hs => ?_) | refine WLPV_split (fun hs => ?_) (fun hs => ?_) | refine WLPC_split (fun hs => ?_) (fun hs => ?_) | refine WLV_split (fun hs => ?_) (fun hs => ?_) | refine WLC_split (fun hs => ?_) (fun hs => ?_) | refine WLB_split (fun hs => ?_) (fun hs => ?_)))
  all_goals (try (have hs' := hs; simp at hs'))
  all_goals (try simp [*, -getElem?_pos, LW.cs, cs_0, cs_length, cs_take, cs_all, cs_lows, mcs_0, mcs_2, mcs_3, mcs_6, mcs_7, mcs_len, mcs_take, mcs_all, mcs_lows, mcsC])
  all_goals (try (first | refine WLV_splitN (fun hs => ?_) (fun hs => ?_) | refine WLC_splitN (fun hs => ?_) (fun hs => ?_) | refine WLB_splitN (fun hs => ?_) (fun hs => ?_) | refine WLPV_splitN (fun hs => ?_) (fun hs => ?_) | refine WLPC_splitN (fun hs => ?_) (fun hs => ?_) | refine WLPV_split (fun hs => ?_) (fun hs => ?_) | refine WLPC_split (fun hs => ?_) (fun hs => ?_) | refine WLV_split (fun hs => ?_) (fun hs => ?_) | refine WLC_split (fun hs => ?_) (fun hs => ?_) | refine WLB_split (fun hs => ?_) (fun hs => ?_)))
  all_goals (try (have hs' := hs; simp at hs'))
  all_goals (try simp [*, -getElem?_pos, LW.cs, cs_0, cs_length, cs_take, cs_all, cs_lows, mcs_0, mcs_2, mcs_3, mcs_6, mcs_7, mcs_len, mcs_take, mcs_all, mcs_lows, mcsC])
  all_goals (try (first | refine WLV_splitN (fun hs => ?_) (fun hs => ?_) | refine WLC_splitN (fun hs => ?_) (fun hs => ?_) | refine WLB_splitN (fun hs => ?_) (fun hs => ?_) | refine WLPV_splitN (fun hs => ?_) (fun hs => ?_) | refine WLPC_splitN (fun hs => ?_) (fun hs => ?_) | refine WLPV_split (fun hs => ?_) (fun hs => ?_) | refine WLPC_split (fun hs => ?_) (fun hs => ?_) | refine WLV_split (fun hs => ?_) (fun hs => ?_) | refine WLC_split (fun hs => ?_) (fun hs => ?_) | refine WLB_split (fun hs => ?_) (fun hs => ?_)))
  all_goals (try (have hs' := hs; simp at hs'))
  all_goals (try simp [*, -getElem?_pos, LW.cs, cs_0, cs_length, cs_take, cs_all, cs_lows, mcs_0, mcs_2, mcs_3, mcs_6, mcs_7, mcs_len, mcs_take, mcs_all, mcs_lows, mcsC])
  all_goals (try (first | refine WLV_splitN (fun hs => ?_) (fun hs => ?_) | refine WLC_splitN (fun hs => ?_) (fun hs => ?_) | refine WLB_splitN (fun hs => ?_) (fun hs => ?_) | refine WLPV_splitN (fun hs => ?_) (fun hs => ?_) | refine WLPC_splitN (fun hs => ?_) (fun hs => ?_) | refine WLPV_split (fun hs => ?_) (fun hs => ?_) | refine WLPC_split (fun hs => ?_) (fun hs => ?_) | refine WLV_split (fun hs => ?_) (fun hs => ?_) | refine WLC_split (fun hs => ?_) (fun hs => ?_) | refine WLB_split (fun hs => ?_) (fun hs => ?_)))
  all_goals (try (have hs' := hs; simp at hs'))
  all_goals (try simp [*, -getElem?_pos, LW.cs, cs_0, cs_length, cs_take, cs_all, cs_lows, mcs_0, mcs_2, mcs_3, mcs_6, mcs_7, mcs_len, mcs_take, mcs_all, mcs_lows, mcsC])
  all_goals (try (first | refine WLV_splitN (fun hs => ?_) (fun hs => ?_) | refine WLC_splitN (fun hs => ?_) (fun hs => ?_) | refine WLB_splitN (fun hs => ?_) (fun hs => ?_) | refine WLPV_splitN (fun hs => ?_) (fun hs => ?_) | refine WLPC_splitN (fun hs => ?_) (fun hs => ?_) | refine WLPV_split (fun hs => ?_) (fun hs => ?_) | refine WLPC_split (fun hs => ?_) (fun hs => ?_) | refine WLV_split (fun hs => ?_) (fun hs => ?_) | refine WLC_split (fun hs => ?_) (fun hs => ?_) | refine WLB_split (fun hs => ?_) (fun hs => ?_)))
  all_goals (try (have hs' := hs; simp at hs'))
  all_goals (try simp [*, -getElem?_pos, LW.cs, cs_0, cs_length, cs_take, cs_all, cs_lows, mcs_0, mcs_2, mcs_3, mcs_6, mcs_7, mcs_len, mcs_take, mcs_all, mcs_lows, mcsC])
  all_goals try (
    refine onGt_go (rest := (.seq .skip (.seq (.reg (⟨(some 58), .ldn 6 (.t 4), none⟩ ::
    ⟨none, .st 6 (.t 6) (.t 58), none⟩ ::
    []))
  .ret))) rfl ?_
    simp [-getElem?_pos, LW.cs, cs_all, mcs_all])
  all_goals (refine ⟨_, rfl, ?_⟩; simp [told18, hc, Lk, LW.dats, LW.inc, LW.bad, *])
noncomputable abbrev look_Told_F := told_F
noncomputable def TTD2 : Tbl := tbl [(24, garlandref13_Right_F), (40, garlandref18_Right_F), (42, garlandref18_Over_F), (28, garlandref06_Right_F), (68, garlandref18_on_F)]
theorem TTD2_ok : TblOK Try.prog TTD2 := tbl_ok (by
  simp only [List.mem_cons, List.not_mem_nil, or_false]
  rintro p (rfl | rfl | rfl | rfl | rfl)
  · exact garlandref13_Right
  · exact garlandref18_Right
  · exact garlandref18_Over
  · exact garlandref06_Right
  · exact garlandref18_on)
instance : Has TTD2 24 garlandref13_Right_F := ⟨rfl⟩
instance : Has TTD2 40 garlandref18_Right_F := ⟨rfl⟩
instance : Has TTD2 42 garlandref18_Over_F := ⟨rfl⟩
instance : Has TTD2 28 garlandref06_Right_F := ⟨rfl⟩
instance : Has TTD2 68 garlandref18_on_F := ⟨rfl⟩

theorem garlandref18_Told : Pure Try.prog 36 told_F := by
  refine con TTD2_ok rfl rfl fun ⟨v, l, m⟩ hm => ⟨rfl, ?_⟩
  have hm : m.call < 9223372036854775808 := hm
  haveI : Fact (m.call < 9223372036854775808) := ⟨hm⟩
  have hw := fun h : l.right = true => lwrap h
  have hc : counts v l m = (v.right && l.right && !l.over && m.right && (m.kind == 10) && (m.src == l.loc) && (m.dest == v.id)) := rfl
  obtain ⟨key, loc, hops, slow, found, code⟩ := l
  simp only at hw
  simp [cf36, V_av, Lk_av, Mg_av, -getElem?_pos, LW.cs, cs_0, cs_length, cs_take, cs_all, cs_lows, mcs_0, mcs_2, mcs_3, mcs_6, mcs_7, mcs_len, mcs_take, mcs_all, mcs_lows, mcsC]
  all_goals (try (first | refine WLV_splitN (fun hs => ?_) (fun hs => ?_) | refine WLC_splitN (fun hs => ?_) (fun hs => ?_) | refine WLB_splitN (fun hs => ?_) (fun hs => ?_) | refine WLPV_splitN (fun hs => ?_) (fun hs => ?_) | refine WLPC_splitN (fun hs => ?_) (fun hs => ?_) | refine WLPV_split (fun hs => ?_) (fun hs => ?_) | refine WLPC_split (fun hs => ?_) (fun hs => ?_) | refine WLV_split (fun hs => ?_) (fun hs => ?_) | refine WLC_split (fun hs => ?_) (fun hs => ?_) | refine WLB_split (fun hs => ?_) (fun hs => ?_)))
  all_goals (try (have hs' := hs; simp at hs'))
  all_goals (try simp [*, -getElem?_pos, LW.cs, cs_0, cs_length, cs_take, cs_all, cs_lows, mcs_0, mcs_2, mcs_3, mcs_6, mcs_7, mcs_len, mcs_take, mcs_all, mcs_lows, mcsC])
  all_goals (try (first | refine WLV_splitN (fun hs => ?_) (fun hs => ?_) | refine WLC_splitN (fun hs => ?_) (fun hs => ?_) | refine WLB_splitN (fun hs => ?_) (fun hs => ?_) | refine WLPV_splitN (fun hs => ?_) (fun hs => ?_) | refine WLPC_splitN (fun hs => ?_) (fun hs => ?_) | refine WLPV_split (fun hs => ?_) (fun hs => ?_) | refine WLPC_split (fun hs => ?_) (fun hs => ?_) | refine WLV_split (fun hs => ?_) (fun hs => ?_) | refine WLC_split (fun hs => ?_) (fun hs => ?_) | refine WLB_split (fun hs => ?_) (fun hs => ?_)))
  all_goals (try (have hs' := hs; simp at hs'))
  all_goals (try simp [*, -getElem?_pos, LW.cs, cs_0, cs_length, cs_take, cs_all, cs_lows, mcs_0, mcs_2, mcs_3, mcs_6, mcs_7, mcs_len, mcs_take, mcs_all, mcs_lows, mcsC])
  all_goals (try (first | refine WLV_splitN (fun hs => ?_) (fun hs => ?_) | refine WLC_splitN (fun hs => ?_) (fun hs => ?_) | refine WLB_splitN (fun hs => ?_) (fun hs => ?_) | refine WLPV_splitN (fun hs => ?_) (fun hs => ?_) | refine WLPC_splitN (fun hs => ?_) (fun hs => ?_) | refine WLPV_split (fun hs => ?_) (fun hs => ?_) | refine WLPC_split (fun hs => ?_) (fun hs => ?_) | refine WLV_split (fun hs => ?_) (fun hs => ?_) | refine WLC_split (fun hs => ?_) (fun hs => ?_) | refine WLB_split (fun hs => ?_) (fun hs => ?_)))
  all_goals (try (have hs' := hs; simp at hs'))
  all_goals (try simp [*, -getElem?_pos, LW.cs, cs_0, cs_length, cs_take, cs_all, cs_lows, mcs_0, mcs_2, mcs_3, mcs_6, mcs_7, mcs_len, mcs_take, mcs_all, mcs_lows, mcsC])
  all_goals (try (first | refine WLV_splitN (fun hs => ?_) (fun hs => ?_) | refine WLC_splitN (fun hs => ?_) (fun hs => ?_) | refine WLB_splitN (fun hs => ?_) (fun hs => ?_) | refine WLPV_splitN (fun hs => ?_) (fun hs => ?_) | refine WLPC_splitN (fun hs => ?_) (fun hs => ?_) | refine WLPV_split (fun hs => ?_) (fun hs => ?_) | refine WLPC_split (fun hs => ?_) (fun hs => ?_) | refine WLV_split (fun hs => ?_) (fun hs => ?_) | refine WLC_split (fun hs => ?_) (fun hs => ?_) | refine WLB_split (fun hs => ?_) (fun hs => ?_)))
  all_goals (try (have hs' := hs; simp at hs'))
  all_goals (try simp [*, -getElem?_pos, LW.cs, cs_0, cs_length, cs_take, cs_all, cs_lows, mcs_0, mcs_2, mcs_3, mcs_6, mcs_7, mcs_len, mcs_take, mcs_all, mcs_lows, mcsC])
  all_goals (try (first | refine WLV_splitN (fun hs => ?_) (fun hs => ?_) | refine WLC_splitN (fun hs => ?_) (fun hs => ?_) | refine WLB_splitN (fun hs => ?_) (fun hs => ?_) | refine WLPV_splitN (fun hs => ?_) (fun hs => ?_) | refine WLPC_splitN (fun hs => ?_) (fun hs => ?_) | refine WLPV_split (fun hs => ?_) (fun hs => ?_) | refine WLPC_split (fun hs => ?_) (fun hs => ?_) | refine WLV_split (fun hs => ?_) (fun hs => ?_) | refine WLC_split (fun hs => ?_) (fun hs => ?_) | refine WLB_split (fun hs => ?_) (fun hs => ?_)))
  all_goals (try (have hs' := hs; simp at hs'))
  all_goals (try simp [*, -getElem?_pos, LW.cs, cs_0, cs_length, cs_take, cs_all, cs_lows, mcs_0, mcs_2, mcs_3, mcs_6, mcs_7, mcs_len, mcs_take, mcs_all, mcs_lows, mcsC])
  all_goals (try (first | refine WLV_splitN (fun hs => ?_) (fun hs => ?_) | refine WLC_splitN (fun hs => ?_) (fun hs => ?_) | refine WLB_splitN (fun hs => ?_) (fun hs => ?_) | refine WLPV_splitN (fun hs => ?_) (fun hs => ?_) | refine WLPC_splitN (fun hs => ?_) (fun hs => ?_) | refine WLPV_split (fun hs => ?_) (fun hs => ?_) | refine WLPC_split (fun hs => ?_) (fun hs => ?_) | refine WLV_split (fun hs => ?_) (fun hs => ?_) | refine WLC_split (fun hs => ?_) (fun hs => ?_) | refine WLB_split (fun hs => ?_) (fun hs => ?_)))
  all_goals (try (have hs' := hs; simp at hs'))
  all_goals (try simp [*, -getElem?_pos, LW.cs, cs_0, cs_length, cs_take, cs_all, cs_lows, mcs_0, mcs_2, mcs_3, mcs_6, mcs_7, mcs_len, mcs_take, mcs_all, mcs_lows, mcsC])
  all_goals (try (first | refine WLV_splitN (fun hs => ?_) (fun hs => ?_) | refine WLC_splitN (fun hs => ?_) (fun hs => ?_) | refine WLB_splitN (fun hs => ?_) (fun hs => ?_) | refine WLPV_splitN (fun hs => ?_) (fun hs => ?_) | refine WLPC_splitN (fun hs => ?_) (fun hs => ?_) | refine WLPV_split (fun hs => ?_) (fun hs => ?_) | refine WLPC_split (fun hs => ?_) (fun hs => ?_) | refine WLV_split (fun hs => ?_) (fun hs => ?_) | refine WLC_split (fun hs => ?_) (fun hs => ?_) | refine WLB_split (fun hs => ?_) (fun hs => ?_)))
  all_goals (try (have hs' := hs; simp at hs'))
  all_goals (try simp [*, -getElem?_pos, LW.cs, cs_0, cs_length, cs_take, cs_all, cs_lows, mcs_0, mcs_2, mcs_3, mcs_6, mcs_7, mcs_len, mcs_take, mcs_all, mcs_lows, mcsC])
  all_goals (try (first | refine WLV_splitN (fun hs => ?_) (fun hs => ?_) | refine WLC_splitN (fun hs => ?_) (fun hs => ?_) | refine WLB_splitN (fun hs => ?_) (fun hs => ?_) | refine WLPV_splitN (fun hs => ?_) (fun hs => ?_) | refine WLPC_splitN (fun hs => ?_) (fun hs => ?_) | refine WLPV_split (fun hs => ?_) (fun hs => ?_) | refine WLPC_split (fun hs => ?_) (fun hs => ?_) | refine WLV_split (fun hs => ?_) (fun hs => ?_) | refine WLC_split (fun hs => ?_) (fun hs => ?_) | refine WLB_split (fun hs => ?_) (fun hs => ?_)))
  all_goals (try (have hs' := hs; simp at hs'))
  all_goals (try simp [*, -getElem?_pos, LW.cs, cs_0, cs_length, cs_take, cs_all, cs_lows, mcs_0, mcs_2, mcs_3, mcs_6, mcs_7, mcs_len, mcs_take, mcs_all, mcs_lows, mcsC])
  all_goals (refine ⟨_, rfl, ?_⟩; simp [told18, hc, Lk, LW.dats, LW.inc, LW.bad, *])
noncomputable abbrev garlandref18_Told_F := told_F

def again18 (v : VW) (l : LW) : LW := bif v.right && l.right && !l.over then (bif decide (40 < l.hops + 1) then l.bad else LW.on v { l with hops := l.hops + 1, slow := true } v.id false) else l
noncomputable def again_F := orcOf (fun q : VW × LW => [V q.1, Lk q.2]) (fun _ => True) (fun q => [Lk (again18 q.1 q.2)])
instance (v : VW) (xs : List AV) (l : LW) [h : AsL xs l] : Tells again_F [.agg v.cs, .agg xs] (.agg (again18 v l).cs) :=
  ⟨[V v, Lk l], [Lk (again18 v l)], fun hp => by simp only [toDVs, toV, asL_to h], orcOf_eq (enc := fun q : VW × LW => [V q.1, Lk q.2]) (x := (v, l)) trivial (fun y hy => by
    simp only [V, Lk, List.cons.injEq, DV.g.injEq, and_true] at hy
    exact Prod.ext (VW.inj hy.1) (LW.inj hy.2)), rfl, by simp [h.t, cs_tied], fun N M => by simp [AV.lows, h.l, cs_lows]⟩
noncomputable def TAG : Tbl := tbl [(41, look_Over_F), (39, look_Right_F), (52, view_Right_F), (67, look_on_F)]
theorem TAG_ok : TblOK Try.prog TAG := tbl_ok (by
  simp only [List.mem_cons, List.not_mem_nil, or_false]
  rintro p (rfl | rfl | rfl | rfl)
  · exact look_Over
  · exact look_Right
  · exact view_Right
  · exact look_on)
instance : Has TAG 41 look_Over_F := ⟨rfl⟩
instance : Has TAG 39 look_Right_F := ⟨rfl⟩
instance : Has TAG 52 view_Right_F := ⟨rfl⟩
instance : Has TAG 67 look_on_F := ⟨rfl⟩

theorem look_Again : Pure Try.prog 37 again_F := by
  refine con TAG_ok rfl rfl fun ⟨v, l⟩ _ => ⟨rfl, ?_⟩
  have hw := fun h : l.right = true => lwrap h
  obtain ⟨key, loc, hops, slow, found, code⟩ := l
  simp only at hw
  simp [cf37, V_av, Lk_av, -getElem?_pos, LW.cs, cs_0, cs_length, cs_take, cs_all, cs_lows, mcs_0, mcs_2, mcs_3, mcs_6, mcs_7, mcs_len, mcs_take, mcs_all, mcs_lows, mcsC]
  all_goals (try (first | refine WLV_splitN (fun hs => ?_) (fun hs => ?_) | refine WLC_splitN (fun hs => ?_) (fun hs => ?_) | refine WLB_splitN (fun hs => ?_) (fun hs => ?_) | refine WLPV_splitN (fun hs => ?_) (fun hs => ?_) | refine WLPC_splitN (fun hs => ?_) (fun hs => ?_) | refine WLPV_split (fun hs => ?_) (fun hs => ?_) | refine WLPC_split (fun hs => ?_) (fun hs => ?_) | refine WLV_split (fun hs => ?_) (fun hs => ?_) | refine WLC_split (fun hs => ?_) (fun hs => ?_) | refine WLB_split (fun hs => ?_) (fun hs => ?_)))
  all_goals (try (have hs' := hs; simp at hs'))
  all_goals (try simp [*, -getElem?_pos, LW.cs, cs_0, cs_length, cs_take, cs_all, cs_lows, mcs_0, mcs_2, mcs_3, mcs_6, mcs_7, mcs_len, mcs_take, mcs_all, mcs_lows, mcsC])
  all_goals (try (first | refine WLV_splitN (fun hs => ?_) (fun hs => ?_) | refine WLC_splitN (fun hs => ?_) (fun hs => ?_) | refine WLB_splitN (fun hs => ?_) (fun hs => ?_) | refine WLPV_splitN (fun hs => ?_) (fun hs => ?_) | refine WLPC_splitN (fun hs => ?_) (fun hs => ?_) | refine WLPV_split (fun hs => ?_) (fun hs => ?_) | refine WLPC_split (fun hs => ?_) (fun hs => ?_) | refine WLV_split (fun hs => ?_) (fun hs => ?_) | refine WLC_split (fun hs => ?_) (fun hs => ?_) | refine WLB_split (fun hs => ?_) (fun hs => ?_)))
  all_goals (try (have hs' := hs; simp at hs'))
  all_goals (try simp [*, -getElem?_pos, LW.cs, cs_0, cs_length, cs_take, cs_all, cs_lows, mcs_0, mcs_2, mcs_3, mcs_6, mcs_7, mcs_len, mcs_take, mcs_all, mcs_lows, mcsC])
  all_goals (try (first | refine WLV_splitN (fun hs => ?_) (fun hs => ?_) | refine WLC_splitN (fun hs => ?_) (fun hs => ?_) | refine WLB_splitN (fun hs => ?_) (fun hs => ?_) | refine WLPV_splitN (fun hs => ?_) (fun hs => ?_) | refine WLPC_splitN (fun hs => ?_) (fun hs => ?_) | refine WLPV_split (fun hs => ?_) (fun hs => ?_) | refine WLPC_split (fun hs => ?_) (fun hs => ?_) | refine WLV_split (fun hs => ?_) (fun hs => ?_) | refine WLC_split (fun hs => ?_) (fun hs => ?_) | refine WLB_split (fun hs => ?_) (fun hs => ?_)))
  all_goals (try (have hs' := hs; simp at hs'))
  all_goals (try simp [*, -getElem?_pos, LW.cs, cs_0, cs_length, cs_take, cs_all, cs_lows, mcs_0, mcs_2, mcs_3, mcs_6, mcs_7, mcs_len, mcs_take, mcs_all, mcs_lows, mcsC])
  all_goals (try (first | refine WLV_splitN (fun hs => ?_) (fun hs => ?_) | refine WLC_splitN (fun hs => ?_) (fun hs => ?_) | refine WLB_splitN (fun hs => ?_) (fun hs => ?_) | refine WLPV_splitN (fun hs => ?_) (fun hs => ?_) | refine WLPC_splitN (fun hs => ?_) (fun hs => ?_) | refine WLPV_split (fun hs => ?_) (fun hs => ?_) | refine WLPC_split (fun hs => ?_) (fun hs => ?_) | refine WLV_split (fun hs => ?_) (fun hs => ?_) | refine WLC_split (fun hs => ?_) (fun hs => ?_) | refine WLB_split (fun hs => ?_) (fun hs => ?_)))
  all_goals (try (have hs' := hs; simp at hs'))
  all_goals (try simp [*, -getElem?_pos, LW.cs, cs_0, cs_length, cs_take, cs_all, cs_lows, mcs_0, mcs_2, mcs_3, mcs_6, mcs_7, mcs_len, mcs_take, mcs_all, mcs_lows, mcsC])
  all_goals (try (first | refine WLV_splitN (fun hs => ?_) (fun hs => ?_) | refine WLC_splitN (fun hs => ?_) (fun hs => ?_) | refine WLB_splitN (fun hs => ?_) (fun hs => ?_) | refine WLPV_splitN (fun hs => ?_) (fun hs => ?_) | refine WLPC_splitN (fun hs => ?_) (fun hs => ?_) | refine WLPV_split (fun hs => ?_) (fun hs => ?_) | refine WLPC_split (fun hs => ?_) (fun hs => ?_) | refine WLV_split (fun hs => ?_) (fun hs => ?_) | refine WLC_split (fun hs => ?_) (fun hs => ?_) | refine WLB_split (fun hs => ?_) (fun hs => ?_)))
  all_goals (try (have hs' := hs; simp at hs'))
  all_goals (try simp [*, -getElem?_pos, LW.cs, cs_0, cs_length, cs_take, cs_all, cs_lows, mcs_0, mcs_2, mcs_3, mcs_6, mcs_7, mcs_len, mcs_take, mcs_all, mcs_lows, mcsC])
  all_goals (refine ⟨_, rfl, ?_⟩; simp [again18, Lk, LW.dats, LW.inc, LW.bad, *])
noncomputable abbrev look_Again_F := again_F
noncomputable def TAG2 : Tbl := tbl [(42, garlandref18_Over_F), (40, garlandref18_Right_F), (24, garlandref13_Right_F), (68, garlandref18_on_F)]
theorem TAG2_ok : TblOK Try.prog TAG2 := tbl_ok (by
  simp only [List.mem_cons, List.not_mem_nil, or_false]
  rintro p (rfl | rfl | rfl | rfl)
  · exact garlandref18_Over
  · exact garlandref18_Right
  · exact garlandref13_Right
  · exact garlandref18_on)
instance : Has TAG2 42 garlandref18_Over_F := ⟨rfl⟩
instance : Has TAG2 40 garlandref18_Right_F := ⟨rfl⟩
instance : Has TAG2 24 garlandref13_Right_F := ⟨rfl⟩
instance : Has TAG2 68 garlandref18_on_F := ⟨rfl⟩

theorem garlandref18_Again : Pure Try.prog 38 again_F := by
  refine con TAG2_ok rfl rfl fun ⟨v, l⟩ _ => ⟨rfl, ?_⟩
  have hw := fun h : l.right = true => lwrap h
  obtain ⟨key, loc, hops, slow, found, code⟩ := l
  simp only at hw
  simp [cf38, V_av, Lk_av, -getElem?_pos, LW.cs, cs_0, cs_length, cs_take, cs_all, cs_lows, mcs_0, mcs_2, mcs_3, mcs_6, mcs_7, mcs_len, mcs_take, mcs_all, mcs_lows, mcsC]
  all_goals (try (first | refine WLV_splitN (fun hs => ?_) (fun hs => ?_) | refine WLC_splitN (fun hs => ?_) (fun hs => ?_) | refine WLB_splitN (fun hs => ?_) (fun hs => ?_) | refine WLPV_splitN (fun hs => ?_) (fun hs => ?_) | refine WLPC_splitN (fun hs => ?_) (fun hs => ?_) | refine WLPV_split (fun hs => ?_) (fun hs => ?_) | refine WLPC_split (fun hs => ?_) (fun hs => ?_) | refine WLV_split (fun hs => ?_) (fun hs => ?_) | refine WLC_split (fun hs => ?_) (fun hs => ?_) | refine WLB_split (fun hs => ?_) (fun hs => ?_)))
  all_goals (try (have hs' := hs; simp at hs'))
  all_goals (try simp [*, -getElem?_pos, LW.cs, cs_0, cs_length, cs_take, cs_all, cs_lows, mcs_0, mcs_2, mcs_3, mcs_6, mcs_7, mcs_len, mcs_take, mcs_all, mcs_lows, mcsC])
  all_goals (try (first | refine WLV_splitN (fun hs => ?_) (fun hs => ?_) | refine WLC_splitN (fun hs => ?_) (fun hs => ?_) | refine WLB_splitN (fun hs => ?_) (fun hs => ?_) | refine WLPV_splitN (fun hs => ?_) (fun hs => ?_) | refine WLPC_splitN (fun hs => ?_) (fun hs => ?_) | refine WLPV_split (fun hs => ?_) (fun hs => ?_) | refine WLPC_split (fun hs => ?_) (fun hs => ?_) | refine WLV_split (fun hs => ?_) (fun hs => ?_) | refine WLC_split (fun hs => ?_) (fun hs => ?_) | refine WLB_split (fun hs => ?_) (fun hs => ?_)))
  all_goals (try (have hs' := hs; simp at hs'))
  all_goals (try simp [*, -getElem?_pos, LW.cs, cs_0, cs_length, cs_take, cs_all, cs_lows, mcs_0, mcs_2, mcs_3, mcs_6, mcs_7, mcs_len, mcs_take, mcs_all, mcs_lows, mcsC])
  all_goals (try (first | refine WLV_splitN (fun hs => ?_) (fun hs => ?_) | refine WLC_splitN (fun hs => ?_) (fun hs => ?_) | refine WLB_splitN (fun hs => ?_) (fun hs => ?_) | refine WLPV_splitN (fun hs => ?_) (fun hs => ?_) | refine WLPC_splitN (fun hs => ?_) (fun hs => ?_) | refine WLPV_split (fun hs => ?_) (fun hs => ?_) | refine WLPC_split (fun hs => ?_) (fun hs => ?_) | refine WLV_split (fun hs => ?_) (fun hs => ?_) | refine WLC_split (fun hs => ?_) (fun hs => ?_) | refine WLB_split (fun hs => ?_) (fun hs => ?_)))
  all_goals (try (have hs' := hs; simp at hs'))
  all_goals (try simp [*, -getElem?_pos, LW.cs, cs_0, cs_length, cs_take, cs_all, cs_lows, mcs_0, mcs_2, mcs_3, mcs_6, mcs_7, mcs_len, mcs_take, mcs_all, mcs_lows, mcsC])
  all_goals (try (first | refine WLV_splitN (fun hs => ?_) (fun hs => ?_) | refine WLC_splitN (fun hs => ?_) (fun hs => ?_) | refine WLB_splitN (fun hs => ?_) (fun hs => ?_) | refine WLPV_splitN (fun hs => ?_) (fun hs => ?_) | refine WLPC_splitN (fun hs => ?_) (fun hs => ?_) | refine WLPV_split (fun hs => ?_) (fun hs => ?_) | refine WLPC_split (fun hs => ?_) (fun hs => ?_) | refine WLV_split (fun hs => ?_) (fun hs => ?_) | refine WLC_split (fun hs => ?_) (fun hs => ?_) | refine WLB_split (fun hs => ?_) (fun hs => ?_)))
  all_goals (try (have hs' := hs; simp at hs'))
  all_goals (try simp [*, -getElem?_pos, LW.cs, cs_0, cs_length, cs_take, cs_all, cs_lows, mcs_0, mcs_2, mcs_3, mcs_6, mcs_7, mcs_len, mcs_take, mcs_all, mcs_lows, mcsC])
  all_goals (try (first | refine WLV_splitN (fun hs => ?_) (fun hs => ?_) | refine WLC_splitN (fun hs => ?_) (fun hs => ?_) | refine WLB_splitN (fun hs => ?_) (fun hs => ?_) | refine WLPV_splitN (fun hs => ?_) (fun hs => ?_) | refine WLPC_splitN (fun hs => ?_) (fun hs => ?_) | refine WLPV_split (fun hs => ?_) (fun hs => ?_) | refine WLPC_split (fun hs => ?_) (fun hs => ?_) | refine WLV_split (fun hs => ?_) (fun hs => ?_) | refine WLC_split (fun hs => ?_) (fun hs => ?_) | refine WLB_split (fun hs => ?_) (fun hs => ?_)))
  all_goals (try (have hs' := hs; simp at hs'))
  all_goals (try simp [*, -getElem?_pos, LW.cs, cs_0, cs_length, cs_take, cs_all, cs_lows, mcs_0, mcs_2, mcs_3, mcs_6, mcs_7, mcs_len, mcs_take, mcs_all, mcs_lows, mcsC])
  all_goals (refine ⟨_, rfl, ?_⟩; simp [again18, Lk, LW.dats, LW.inc, LW.bad, *])
noncomputable abbrev garlandref18_Again_F := again_F

def LW.asks (l : LW) : Bool := l.right && !l.over
def LW.ask (l : LW) : MW := bif l.asks then ⟨4, 0, 0, l.loc, l.key, l.slow, false, 0, 0, [], [], 0, 0, false, 0, by decide⟩ else MW.zero
noncomputable def ask_F := orcOf (fun l : LW => [Lk l]) (fun _ => True) (fun l => [Mg l.ask, Bo l.asks])
instance (xs : List AV) (l : LW) [h : AsL xs l] : Tells ask_F [.agg xs] (.tup [.agg l.ask.cs, .d (.bool l.asks)]) := ⟨[Lk l], [Mg l.ask, Bo l.asks], fun hp => by simp only [toDVs, asL_to h], orcL l, rfl, l_or h, fun N M => by simp [AV.lows, h.l]⟩
noncomputable def TAK : Tbl := tbl [(41, look_Over_F), (39, look_Right_F)]
theorem TAK_ok : TblOK Try.prog TAK := tbl_ok (by
  simp only [List.mem_cons, List.not_mem_nil, or_false]
  rintro p (rfl | rfl)
  · exact look_Over
  · exact look_Right)
instance : Has TAK 41 look_Over_F := ⟨rfl⟩
instance : Has TAK 39 look_Right_F := ⟨rfl⟩

theorem look_Ask : Pure Try.prog 31 ask_F := by
  refine con TAK_ok rfl rfl fun l _ => ⟨rfl, ?_⟩
  obtain ⟨key, loc, hops, slow, found, code⟩ := l
  simp [cf31, Lk_av, -getElem?_pos, LW.cs, fillA]
  all_goals (try (first | refine WLV_splitN (fun hs => ?_) (fun hs => ?_) | refine WLC_splitN (fun hs => ?_) (fun hs => ?_) | refine WLB_splitN (fun hs => ?_) (fun hs => ?_) | refine WLPV_splitN (fun hs => ?_) (fun hs => ?_) | refine WLPC_splitN (fun hs => ?_) (fun hs => ?_) | refine WLPV_split (fun hs => ?_) (fun hs => ?_) | refine WLPC_split (fun hs => ?_) (fun hs => ?_) | refine WLV_split (fun hs => ?_) (fun hs => ?_) | refine WLC_split (fun hs => ?_) (fun hs => ?_) | refine WLB_split (fun hs => ?_) (fun hs => ?_)))
  all_goals (try (have hs' := hs; simp at hs'))
  all_goals (try simp [*, -getElem?_pos, LW.cs, fillA])
  all_goals (try (first | refine WLV_splitN (fun hs => ?_) (fun hs => ?_) | refine WLC_splitN (fun hs => ?_) (fun hs => ?_) | refine WLB_splitN (fun hs => ?_) (fun hs => ?_) | refine WLPV_splitN (fun hs => ?_) (fun hs => ?_) | refine WLPC_splitN (fun hs => ?_) (fun hs => ?_) | refine WLPV_split (fun hs => ?_) (fun hs => ?_) | refine WLPC_split (fun hs => ?_) (fun hs => ?_) | refine WLV_split (fun hs => ?_) (fun hs => ?_) | refine WLC_split (fun hs => ?_) (fun hs => ?_) | refine WLB_split (fun hs => ?_) (fun hs => ?_)))
  all_goals (try (have hs' := hs; simp at hs'))
  all_goals (try simp [*, -getElem?_pos, LW.cs, fillA])
  all_goals simp [LW.ask, LW.asks, toDVs, toDV, dats?, AV.dat?, Mg, MW.dats, MW.zero, rowsI, *]
noncomputable abbrev look_Ask_F := ask_F
noncomputable def TAK2 : Tbl := tbl [(42, garlandref18_Over_F), (40, garlandref18_Right_F)]
theorem TAK2_ok : TblOK Try.prog TAK2 := tbl_ok (by
  simp only [List.mem_cons, List.not_mem_nil, or_false]
  rintro p (rfl | rfl)
  · exact garlandref18_Over
  · exact garlandref18_Right)
instance : Has TAK2 42 garlandref18_Over_F := ⟨rfl⟩
instance : Has TAK2 40 garlandref18_Right_F := ⟨rfl⟩

theorem garlandref18_Ask : Pure Try.prog 32 ask_F := by
  refine con TAK2_ok rfl rfl fun l _ => ⟨rfl, ?_⟩
  obtain ⟨key, loc, hops, slow, found, code⟩ := l
  simp [cf32, Lk_av, -getElem?_pos, LW.cs, fillA]
  all_goals (try (first | refine WLV_splitN (fun hs => ?_) (fun hs => ?_) | refine WLC_splitN (fun hs => ?_) (fun hs => ?_) | refine WLB_splitN (fun hs => ?_) (fun hs => ?_) | refine WLPV_splitN (fun hs => ?_) (fun hs => ?_) | refine WLPC_splitN (fun hs => ?_) (fun hs => ?_) | refine WLPV_split (fun hs => ?_) (fun hs => ?_) | refine WLPC_split (fun hs => ?_) (fun hs => ?_) | refine WLV_split (fun hs => ?_) (fun hs => ?_) | refine WLC_split (fun hs => ?_) (fun hs => ?_) | refine WLB_split (fun hs => ?_) (fun hs => ?_)))
  all_goals (try (have hs' := hs; simp at hs'))
  all_goals (try simp [*, -getElem?_pos, LW.cs, fillA])
  all_goals (try (first | refine WLV_splitN (fun hs => ?_) (fun hs => ?_) | refine WLC_splitN (fun hs => ?_) (fun hs => ?_) | refine WLB_splitN (fun hs => ?_) (fun hs => ?_) | refine WLPV_splitN (fun hs => ?_) (fun hs => ?_) | refine WLPC_splitN (fun hs => ?_) (fun hs => ?_) | refine WLPV_split (fun hs => ?_) (fun hs => ?_) | refine WLPC_split (fun hs => ?_) (fun hs => ?_) | refine WLV_split (fun hs => ?_) (fun hs => ?_) | refine WLC_split (fun hs => ?_) (fun hs => ?_) | refine WLB_split (fun hs => ?_) (fun hs => ?_)))
  all_goals (try (have hs' := hs; simp at hs'))
  all_goals (try simp [*, -getElem?_pos, LW.cs, fillA])
  all_goals simp [LW.ask, LW.asks, toDVs, toDV, dats?, AV.dat?, Mg, MW.dats, MW.zero, rowsI, *]
noncomputable abbrev garlandref18_Ask_F := ask_F

def tellM (src dest p : Int) (done : Bool) : MW := ⟨10, dest * 1048576 + 1, src, dest, 0, false, done, p, 0, [], [], 0, 0, false, 0, by decide⟩
noncomputable def tellM_F := orcOf (fun q : Int × Int × Int × Bool => [I q.1, I q.2.1, I q.2.2.1, Bo q.2.2.2]) (fun q => 0 ≤ q.2.1 ∧ q.2.1 < 65536) (fun q => [Mg (tellM q.1 q.2.1 q.2.2.1 q.2.2.2)])
instance (a b c : Int) (d : Bool) [h : Fact (0 ≤ b ∧ b < 65536)] : Tells tellM_F [.d (.int .i64 a), .d (.int .i64 b), .d (.int .i64 c), .d (.bool d)] (.agg (tellM a b c d).cs) :=
  ⟨[I a, I b, I c, Bo d], [Mg (tellM a b c d)], fun _ => rfl, orcOf_eq (enc := fun q : Int × Int × Int × Bool => [I q.1, I q.2.1, I q.2.2.1, Bo q.2.2.2]) (x := (a, b, c, d)) h.out (fun y hy => by
    simpa [I, Bo, Prod.ext_iff] using hy), rfl, rfl, fun _ _ => rfl⟩
theorem garlandlaw18_tell : Pure Try.prog 43 tellM_F := by
  refine con (T := tbl []) (tbl_ok (by simp)) rfl rfl fun ⟨a, b, c, d⟩ hb => ⟨rfl, ?_⟩
  have hb : 0 ≤ b ∧ b < 65536 := hb
  have w1 : IntKind.i64.wrap (b * 1048576) = b * 1048576 := by rw [wrap64]; split <;> omega
  have w2 : IntKind.i64.wrap (b * 1048576 + 1) = b * 1048576 + 1 := by rw [wrap64]; split <;> omega
  simp [cf43, -getElem?_pos, fillA, w1, w2]
  exact ⟨_, rfl, rfl⟩
noncomputable abbrev garlandlaw18_tell_F := tellM_F
end Go.Proofs.Ytbeocehhclfbiaa.Lite
namespace Go.Proofs.Ytbeocehhclfbiaa.Lite
open Go

theorem far_lo (a b : Int) : 0 ≤ far a b := by unfold far; omega
theorem far_hi (a b : Int) : far a b < 65536 := by unfold far; omega
theorem far_self (a : Int) : far a a = 0 := by unfold far; omega
theorem isPlace_iff (n : Int) : isPlace n = true ↔ 0 ≤ n ∧ n < 65536 := by simp [isPlace]

theorem chain_mem {x : Int} : ∀ {l : List Int} {p : Int}, chain x p l = true → ∀ n ∈ l, isPlace n = true ∧ far x p < far x n
  | [], p, _, n, hn => by cases hn
  | m :: l, p, h, n, hn => by
    simp only [chain, behind, Bool.and_eq_true, decide_eq_true_eq] at h
    rcases List.mem_cons.1 hn with rfl | hn
    · exact h.1
    · have := chain_mem h.2 n hn
      exact ⟨this.1, by omega⟩

theorem ownF_place (key : Int) : ∀ (l : List Int) (a : Int), 0 ≤ a → a < 65536 → 0 ≤ ownF key a l ∧ ownF key a l < 65536
  | [], a, h1, h2 => ⟨h1, h2⟩
  | x :: l, a, h1, h2 => by
    unfold ownF
    apply ownF_place key l
    · cases decide (far key x < far key a) <;> simp [place] <;> omega
    · cases decide (far key x < far key a) <;> simp [place] <;> omega

theorem ownF_le (key : Int) : ∀ (l : List Int) (a : Int), far key (ownF key a l) ≤ far key a ∧ ∀ n ∈ l, far key (ownF key a l) ≤ far key n
  | [], a => ⟨Int.le_refl _, fun _ h => by cases h⟩
  | x :: l, a => by
    unfold ownF
    have hx : far key (place x) = far key x := by unfold far place; omega
    cases h : decide (far key x < far key a) with
    | true =>
      simp only [cond_true]
      obtain ⟨h1, h2⟩ := ownF_le key l (place x)
      rw [hx] at h1
      have : far key x < far key a := by simpa using h
      refine ⟨by omega, fun n hn => ?_⟩
      rcases List.mem_cons.1 hn with rfl | hn
      · exact h1
      · exact h2 n hn
    | false =>
      simp only [cond_false]
      obtain ⟨h1, h2⟩ := ownF_le key l a
      have : ¬ far key x < far key a := by simpa using h
      refine ⟨h1, fun n hn => ?_⟩
      rcases List.mem_cons.1 hn with rfl | hn
      · omega
      · exact h2 n hn

structure VW.R (v : VW) : Prop where
  id0 : 0 ≤ v.id
  id1 : v.id < 65536
  b2 : 2 ≤ v.base.length
  b4 : v.base.length ≤ 4
  ch : chain v.id v.id v.lst = true
  l3 : v.lst.length ≤ 3
  pr : other v.id v.pred = true
  bs : baseOk v.base = true
  fn : ∀ n ∈ v.fin, other v.id n = true
theorem VW.r {v : VW} (h : v.right = true) : v.R := by
  unfold VW.right listRight at h
  simp only [Bool.and_eq_true, decide_eq_true_eq, isPlace_iff, List.all_eq_true] at h
  obtain ⟨⟨⟨⟨⟨⟨⟨h1, h2⟩, h3⟩, h4⟩, h5, h6⟩, h7⟩, h8⟩, h9⟩ := h
  exact ⟨h1, h2, h3, h4, h5, h6, h7, h8, h9⟩

theorem base_two {l : List Int} (h : baseOk l = true) (h2 : 2 ≤ l.length) : ∃ a b r, l = a :: b :: r ∧ isPlace a = true ∧ isPlace b = true ∧ a < b := by
  match l, h2 with
  | a :: b :: r, _ =>
    have h0 := (baseOk_iff _).1 h 0 a rfl
    have h1 := (baseOk_iff _).1 h 1 b rfl
    simp [bAt] at h0 h1
    exact ⟨a, b, r, rfl, h0, h1.1, h1.2⟩

theorem anchor_ok {v : VW} (h : v.right = true) : 0 ≤ v.anchor ∧ v.anchor < 65536 ∧ 0 < far v.id v.anchor := by
  have R := VW.r h
  obtain ⟨a, b, r, hb, ha, hbb, hlt⟩ := base_two R.bs R.b2
  rw [isPlace_iff] at ha hbb
  have hA : v.anchor = ownF (v.id + 1) (place a) (b :: r) := by simp [VW.anchor, h, owner, hb]
  have h1 := ownF_place (v.id + 1) (b :: r) (place a) (by unfold place; omega) (by unfold place; omega)
  obtain ⟨h2, h3⟩ := ownF_le (v.id + 1) (b :: r) (place a)
  have h4 := h3 b (by simp)
  rw [← hA] at h1 h2 h4
  have := R.id0; have := R.id1
  refine ⟨h1.1, h1.2, ?_⟩
  unfold far place at *
  omega

theorem first_ok {v : VW} (h : v.right = true) : 0 ≤ v.first ∧ v.first < 65536 ∧ 0 < far v.id v.first := by
  have R := VW.r h
  unfold VW.first
  split
  · exact anchor_ok h
  · rename_i x l hl
    have := chain_mem R.ch x (by rw [hl]; simp)
    rw [isPlace_iff, far_self] at this
    simp [h]
    exact ⟨this.1.1, this.1.2, this.2⟩

theorem upTo_iff {v : VW} (h : v.right = true) (k : Int) : upToB v.id k v.first = true ↔ 0 < far v.id k ∧ far v.id k ≤ far v.id v.first := by
  obtain ⟨h1, h2, h3⟩ := first_ok h
  have R := VW.r h
  have := R.id0; have := R.id1
  unfold upToB inB
  simp only [Bool.or_eq_true, Bool.and_eq_true, beq_iff_eq, bne_iff_ne, decide_eq_true_eq]
  unfold far at *
  omega

theorem in_iff (a n k : Int) : inB a n k = true ↔ 0 < far a n ∧ far a n < left a k := by
  unfold inB left
  have := far_lo a n; have := far_hi a n; have := far_lo a k
  cases h : decide (0 < far a k) <;> simp at h <;> simp only [cond_true, cond_false, Bool.or_eq_true, Bool.and_eq_true, beq_iff_eq, bne_iff_ne, decide_eq_true_eq, ne_eq] <;> omega

theorem left_if (a k : Int) : left a k = if 0 < far a k then far a k else 65536 := by
  unfold left
  by_cases h : 0 < far a k <;> simp [h]
theorem closer_iff {a n k : Int} (h : 0 < far a n) (h2 : far a n < left a k) : closer k a n = true := by
  unfold closer
  rw [decide_eq_true_eq]
  rw [left_if] at h2 ⊢
  rw [left_if a k]
  have := far_lo a n; have := far_hi a n; have := far_lo a k
  unfold far at *
  split at h2 <;> split <;> omega

/-- where on, but the owner -/
theorem nextF_ok (id k : Int) : ∀ (l : List Int) (p : Int), (∀ n ∈ l, 0 ≤ n → n < 65536) → 0 ≤ p → p < 65536 → 0 < far id p → far id p < left id k →
    0 ≤ nextF id k p l ∧ nextF id k p l < 65536 ∧ 0 < far id (nextF id k p l) ∧ far id (nextF id k p l) < left id k ∧ far id p ≤ far id (nextF id k p l) ∧ ∀ n ∈ l, 0 ≤ n → 0 < far id n → far id n < left id k → far id n ≤ far id (nextF id k p l)
  | [], p, _, h1, h2, h3, h4 => ⟨h1, h2, h3, h4, Int.le_refl _, fun _ h => by cases h⟩
  | x :: l, p, hl, h1, h2, h3, h4 => by
    unfold nextF
    cases h : decide (0 ≤ x) && inB id x k && decide (far id p < far id x) with
    | true =>
      simp only [Bool.and_eq_true, decide_eq_true_eq, in_iff] at h
      simp only [cond_true]
      have := nextF_ok id k l x (fun n hn => hl n (by simp [hn])) h.1.1 (hl x (by simp) h.1.1) h.1.2.1 h.1.2.2
      obtain ⟨g1, g2, g3, g4, g5, g6⟩ := this
      refine ⟨g1, g2, g3, g4, by omega, fun n hn h0 hp hL => ?_⟩
      rcases List.mem_cons.1 hn with rfl | hn
      · exact g5
      · exact g6 n hn h0 hp hL
    | false =>
      simp only [cond_false]
      obtain ⟨g1, g2, g3, g4, g5, g6⟩ := nextF_ok id k l p (fun n hn => hl n (by simp [hn])) h1 h2 h3 h4
      refine ⟨g1, g2, g3, g4, g5, fun n hn h0 hp hL => ?_⟩
      rcases List.mem_cons.1 hn with rfl | hn
      · have : ¬ far id p < far id n := by
          intro hlt
          have hi : inB id n k = true := (in_iff id n k).2 ⟨hp, hL⟩
          simp [h0, hi, hlt] at h
        omega
      · exact g6 n hn h0 hp hL

theorem all_places {v : VW} (h : v.right = true) : ∀ n ∈ v.lst ++ v.fin, 0 ≤ n → n < 65536 := by
  have R := VW.r h
  intro n hn h0
  rcases List.mem_append.1 hn with hn | hn
  · have := (chain_mem R.ch n hn).1
    rw [isPlace_iff] at this; exact this.2
  · have := R.fn n hn
    simp only [other, Bool.or_eq_true, Bool.and_eq_true, isPlace_iff, beq_iff_eq] at this
    omega

theorem not_upTo {v : VW} (h : v.right = true) {k : Int} (hu : upToB v.id k v.first = false) : far v.id v.first < left v.id k := by
  obtain ⟨h1, h2, h3⟩ := first_ok h
  have h4 : ¬ (0 < far v.id k ∧ far v.id k ≤ far v.id v.first) := by rw [← upTo_iff h k, hu]; simp
  have := far_lo v.id k; have := far_hi v.id v.first
  unfold left
  cases hd : decide (0 < far v.id k) <;> simp only [decide_eq_true_eq, decide_eq_false_iff_not, cond_true, cond_false] at * <;> omega

theorem next_eq {v : VW} (h : v.right = true) (k : Int) (s : Bool) : v.next k s = bif upToB v.id k v.first then (v.first, true) else bif s then (v.first, false) else (nextF v.id k v.first (v.lst ++ v.fin), false) := by
  have := (first_ok h).1
  have : decide (v.first < 0) = false := by simp; omega
  simp [VW.next, this]

theorem next_own {v : VW} (h : v.right = true) {k : Int} {s : Bool} (ho : (v.next k s).2 = true) : (v.next k s).1 = v.first ∧ 0 < far v.id k ∧ far v.id k ≤ far v.id v.first := by
  rw [next_eq h] at ho ⊢
  cases hu : upToB v.id k v.first with
  | true => exact ⟨by simp, (upTo_iff h k).1 hu⟩
  | false => rw [hu] at ho; cases s <;> simp at ho

theorem next_not {v : VW} (h : v.right = true) {k : Int} {s : Bool} (ho : (v.next k s).2 = false) :
    0 ≤ (v.next k s).1 ∧ (v.next k s).1 < 65536 ∧ 0 < far v.id (v.next k s).1 ∧ far v.id (v.next k s).1 < left v.id k ∧ far v.id v.first ≤ far v.id (v.next k s).1 ∧ (s = true → (v.next k s).1 = v.first) ∧ upToB v.id k v.first = false ∧
      (s = false → ∀ n ∈ v.lst ++ v.fin, 0 ≤ n → 0 < far v.id n → far v.id n < left v.id k → far v.id n ≤ far v.id (v.next k s).1) := by
  rw [next_eq h] at ho ⊢
  obtain ⟨h1, h2, h3⟩ := first_ok h
  cases hu : upToB v.id k v.first with
  | true => rw [hu] at ho; simp at ho
  | false =>
    have h4 := not_upTo h hu
    cases s with
    | true => simp only [cond_false, cond_true]; exact ⟨h1, h2, h3, h4, Int.le_refl _, fun _ => trivial, trivial, fun h => by cases h⟩
    | false =>
      simp only [cond_false]
      obtain ⟨g1, g2, g3, g4, g5, g6⟩ := nextF_ok v.id k (v.lst ++ v.fin) v.first (all_places h) h1 h2 h3 h4
      exact ⟨g1, g2, g3, g4, g5, fun h => (by cases h), trivial, fun _ => g6⟩
theorem next_place {v : VW} (h : v.right = true) (k : Int) (s : Bool) : 0 ≤ (v.next k s).1 ∧ (v.next k s).1 < 65536 ∧ (v.next k s).1 ≠ v.id := by
  cases ho : (v.next k s).2 with
  | true =>
    obtain ⟨h1, h2, h3⟩ := first_ok h
    rw [(next_own h ho).1]
    exact ⟨h1, h2, fun e => by rw [e, far_self] at h3; omega⟩
  | false =>
    obtain ⟨g1, g2, g3, _⟩ := next_not h ho
    exact ⟨g1, g2, fun e => by rw [e, far_self] at g3; omega⟩
theorem left_ok {v : VW} (h : v.right = true) (k : Int) : v.left k = left v.id k := by simp [VW.left, h]
end Go.Proofs.Ytbeocehhclfbiaa.Lite
namespace Go.Proofs.Ytbeocehhclfbiaa.Lite
open Go

theorem counts_parts {v : VW} {l : LW} {m : MW} (h : counts v l m = true) : v.right = true ∧ l.right = true ∧ l.over = false ∧ m.right = true ∧ (m.kind == 10) = true ∧ (m.src == l.loc) = true ∧ (m.dest == v.id) = true := by
  unfold counts at h
  simp only [Bool.and_eq_true, Bool.not_eq_true'] at h
  obtain ⟨⟨⟨⟨⟨⟨h1, h2⟩, h3⟩, h4⟩, h5⟩, h6⟩, h7⟩ := h
  exact ⟨h1, h2, h3, h4, h5, h6, h7⟩
theorem told_no {v : VW} {l : LW} {m : MW} (h : counts v l m = false) : told18 v l m = l := by simp [told18, h]
theorem again_no {v : VW} {l : LW} (h : (l.right && !l.over) = false) : again18 v l = l := by
  unfold again18; rw [Bool.and_assoc, h]; simp
theorem over_parts {l : LW} (h : l.over = false) : l.found = false ∧ l.code = 0 := by
  unfold LW.over at h
  cases hf : l.found <;> rw [hf] at h
  · simp at h; exact ⟨rfl, h⟩
  · simp at h
structure LW.R (l : LW) : Prop where
  k : isPlace l.key = true
  a : isPlace l.loc = true
  h0 : 0 ≤ l.hops
  h1 : l.hops ≤ 41
  c : if 40 < l.hops then l.code = 211 ∧ l.found = false else l.code = 0
theorem LW.r {l : LW} : l.right = true ↔ l.R := by
  unfold LW.right
  simp only [Bool.and_eq_true, decide_eq_true_eq]
  constructor
  · rintro ⟨⟨⟨h1, h2⟩, h3, h4⟩, h5⟩
    refine ⟨h1, h2, h3, h4, ?_⟩
    by_cases h : 40 < l.hops
    · simp [h] at h5 ⊢; exact h5
    · simp [h] at h5 ⊢; exact h5
  · rintro ⟨h1, h2, h3, h4, h5⟩
    refine ⟨⟨⟨h1, h2⟩, h3, h4⟩, ?_⟩
    by_cases h : 40 < l.hops
    · simp [h] at h5 ⊢; exact h5
    · simp [h] at h5 ⊢; exact h5
theorem on_key (v : VW) (l : LW) (p : Int) (o : Bool) : (l.on v p o).key = l.key ∧ (l.on v p o).hops = l.hops ∧ (l.on v p o).slow = l.slow ∧ (l.on v p o).code = l.code := by
  unfold LW.on; cases p == v.id && !o <;> exact ⟨rfl, rfl, rfl, rfl⟩
theorem on_loc {v : VW} (hv : v.right = true) (l : LW) {p : Int} (hp : isPlace p = true) (o : Bool) : isPlace (l.on v p o).loc = true := by
  unfold LW.on
  cases p == v.id && !o
  · exact hp
  · have := next_place hv l.key l.slow
    exact (isPlace_iff _).2 ⟨this.1, this.2.1⟩
theorem id_place {v : VW} (hv : v.right = true) : isPlace v.id = true := (isPlace_iff _).2 (right_id hv)
theorem mright_place {m : MW} (h : m.right = true) (hk : (m.kind == 10) = true) : isPlace m.place = true := by
  have hk : m.kind = 10 := by simpa using hk
  unfold MW.right at h
  simp only [Bool.and_eq_true] at h
  have := h.2
  unfold MW.has MW.fine at this
  simpa [hk] using this

/-- what a look is behind an answer that counts, or behind another beginning: hops, key, slow, that it may be -/
theorem step_right {v : VW} (hv : v.right = true) {l : LW} (hl : l.right = true) (ho : l.over = false) (l' : LW) (hk : l'.key = l.key) (hh : l'.hops = l.hops + 1) (hc : l'.code = 0) {p : Int} (hp : isPlace p = true) (o : Bool) (h40 : ¬ 40 < l.hops + 1) : (l'.on v p o).right = true := by
  have R := LW.r.1 hl
  rw [LW.r]
  obtain ⟨e1, e2, e3, e4⟩ := on_key v l' p o
  refine ⟨by rw [e1, hk]; exact R.k, on_loc hv l' hp o, by rw [e2, hh]; have := R.h0; omega, by rw [e2, hh]; omega, ?_⟩
  rw [e2, hh, e4, hc, if_neg h40]
theorem bad_right {l : LW} (hl : l.right = true) (ho : l.over = false) (h40 : 40 < l.hops + 1) : l.bad.right = true := by
  have R := LW.r.1 hl
  obtain ⟨hf, hc⟩ := over_parts ho
  have h1 : ¬ 40 < l.hops := fun h => by have := R.c; rw [if_pos h, hc] at this; simp at this
  rw [LW.r]
  refine ⟨R.k, R.a, by show 0 ≤ l.hops + 1; have := R.h0; omega, by show l.hops + 1 ≤ 41; omega, ?_⟩
  show if 40 < l.hops + 1 then _ else _
  rw [if_pos h40]; exact ⟨rfl, hf⟩
theorem told_yes {v : VW} {l : LW} {m : MW} (h : counts v l m = true) : (told18 v l m).hops = l.hops + 1 ∧ (told18 v l m).key = l.key ∧ (told18 v l m).slow = l.slow ∧ (told18 v l m).right = true ∧ (told18 v l m).code = (bif decide (40 < l.hops + 1) then 211 else 0) := by
  obtain ⟨h1, h2, h3, h4, h5, h6, h7⟩ := counts_parts h
  obtain ⟨hf, hc⟩ := over_parts h3
  by_cases h40 : 40 < l.hops + 1
  · have e : told18 v l m = l.bad := by simp [told18, h, h40]
    rw [e]
    exact ⟨rfl, rfl, rfl, bad_right h2 h3 h40, by simp [h40, LW.bad]⟩
  · have e : told18 v l m = l.inc.on v m.place m.fin := by simp [told18, h, h40]
    rw [e]
    obtain ⟨e1, e2, e3, e4⟩ := on_key v l.inc m.place m.fin
    exact ⟨e2, e1, e3, step_right h1 h2 h3 l.inc rfl rfl hc (mright_place h4 h5) m.fin h40, by rw [e4]; simp [h40, LW.inc, hc]⟩
theorem again_yes {v : VW} (hv : v.right = true) {l : LW} (hl : l.right = true) (ho : l.over = false) : (again18 v l).hops = l.hops + 1 ∧ (again18 v l).key = l.key ∧ (again18 v l).right = true ∧ ((again18 v l).code == 211) = decide (40 ≤ l.hops) ∧ (decide (40 ≤ l.hops) = false → (again18 v l).slow = true) ∧ ((again18 v l).code = bif decide (40 < l.hops + 1) then 211 else 0) ∧
    (again18 v l).slow = (l.slow || !decide (40 < l.hops + 1)) := by
  obtain ⟨hf, hc⟩ := over_parts ho
  by_cases h40 : 40 < l.hops + 1
  · have e : again18 v l = l.bad := by simp [again18, hv, hl, ho, h40]
    rw [e]
    exact ⟨rfl, rfl, bad_right hl ho h40, by simp [LW.bad]; omega, fun h => by simp at h; omega, by simp [h40, LW.bad], by simp [h40, LW.bad]⟩
  · have e : again18 v l = LW.on v { l with hops := l.hops + 1, slow := true } v.id false := by simp [again18, hv, hl, ho, h40]
    rw [e]
    obtain ⟨e1, e2, e3, e4⟩ := on_key v { l with hops := l.hops + 1, slow := true } v.id false
    refine ⟨e2, e1, step_right hv hl ho { l with hops := l.hops + 1, slow := true } rfl rfl hc (id_place hv) false h40, ?_, fun _ => e3, by rw [e4]; simp [h40, hc], by rw [e3]; simp [h40]⟩
    rw [e4, hc]; simp; omega
theorem far_place (a k : Int) : far a (place k) = far a k := by unfold far place; omega
theorem far_place' (k b : Int) : far (place k) b = far k b := by unfold far place; omega
theorem in_place (a n k : Int) : inB a n (place k) = inB a n k := by unfold inB; rw [far_place]
theorem upTo_place (a k b : Int) : upToB a (place k) b = upToB a k b := by unfold upToB inB; rw [far_place, far_place']
theorem nextF_place (id k : Int) : ∀ (l : List Int) (p : Int), nextF id (place k) p l = nextF id k p l
  | [], p => rfl
  | x :: l, p => by unfold nextF; rw [in_place, nextF_place id k l]
theorem next_place_eq (v : VW) (k : Int) (s : Bool) : v.next (place k) s = v.next k s := by
  unfold VW.next; rw [upTo_place, nextF_place]
theorem place_isPlace (k : Int) : isPlace (place k) = true := by rw [isPlace_iff]; unfold place; omega
theorem place_of {n : Int} (h : isPlace n = true) : place n = n := by rw [isPlace_iff] at h; unfold place; omega
theorem begin_yes {v : VW} (hv : v.right = true) (k : Int) : begin18 v k = ⟨place k, (v.next k false).1, 0, false, (v.next k false).2, 0⟩ := by
  simp [begin18, hv, LW.on, next_place_eq]
theorem begin_right {v : VW} (hv : v.right = true) (k : Int) : (begin18 v k).right = true := by
  rw [begin_yes hv, LW.r]
  have := next_place hv k false
  refine ⟨place_isPlace k, (isPlace_iff _).2 ⟨this.1, this.2.1⟩, Int.le_refl _, by show (0 : Int) ≤ 41; omega, ?_⟩
  show if (40 : Int) < 0 then _ else _
  rw [if_neg (by omega)]
theorem tellM_right {a b p : Int} (ha : isPlace a = true) (hb : isPlace b = true) (hab : a ≠ b) (hp : isPlace p = true) (d : Bool) : (tellM a b p d).right = true := by
  have h1 : (tellM a b p d).bare.same (tellM a b p d).empty = true := by simp [tellM, MW.bare, MW.empty, MW.same]
  have h2 : (tellM a b p d).has = true := by simp [tellM, MW.has, MW.fine, hp]
  have h3 : (tellM a b p d).asker = b := by simp [MW.asker, MW.asks, tellM]
  unfold MW.right MW.guard MW.calls
  rw [h1, h2, h3]
  simp [tellM, ha, hb, hab]
  exact decide_eq_true (by omega)
theorem counts_tell {v : VW} (hv : v.right = true) {l : LW} (hl : l.right = true) (ho : l.over = false) (hne : l.loc ≠ v.id) {p : Int} (hp : isPlace p = true) (d : Bool) : counts v l (tellM l.loc v.id p d) = true := by
  unfold counts
  rw [hv, hl, ho, tellM_right (LW.r.1 hl).a (id_place hv) hne hp d]
  simp [tellM]
theorem lcs_0 (l : LW) : l.cs[0]? = some (.d (.int .i64 l.key)) := rfl
theorem lcs_1 (l : LW) : l.cs[1]? = some (.d (.int .i64 l.loc)) := rfl
theorem lcs_2 (l : LW) : l.cs[2]? = some (.d (.int .i64 l.hops)) := rfl
theorem lcs_3 (l : LW) : l.cs[3]? = some (.d (.bool l.slow)) := rfl
theorem lcs_4 (l : LW) : l.cs[4]? = some (.d (.bool l.found)) := rfl
theorem lcs_5 (l : LW) : l.cs[5]? = some (.d (.int .i64 l.code)) := rfl
end Go.Proofs.Ytbeocehhclfbiaa.Lite
namespace Go.Proofs.Ytbeocehhclfbiaa.Lite
open Go

def isTrue : Option (AV × St) → Bool
  | some (.d (.bool true), st) => st.h.isEmpty
  | _ => false
theorem WC_true {T : Tbl} {f : Nat} {n : Nat} (h : isTrue (evCall T n ⟨[], 0⟩ (.fn f []) [] ⟨[], []⟩) = true) : WC T ⟨[], 0⟩ (.fn f []) [] ⟨[], []⟩ (fun y st' => outs st'.h y = some [Bo true]) := by
  unfold isTrue at h
  split at h
  · rename_i st he; exact ⟨n, _, _, he, rfl⟩
  · cases h
noncomputable def true_F := orcOf (fun _ : Unit => []) (fun _ => True) (fun _ => [Bo true])
instance : Tells true_F [] (.d (.bool true)) := ⟨[], [Bo true], fun _ => rfl, orcOf_eq (enc := fun _ : Unit => []) (x := ()) trivial (fun _ _ => rfl), rfl, rfl, fun _ _ => rfl⟩
set_option maxRecDepth 100000 in
theorem wakes16 : isTrue (evCall (tbl []) 300 ⟨[], 0⟩ (.fn 14 []) [] ⟨[], []⟩) = true := by kernel_rfl
theorem garlandlaw16_wakes : Pure Try.prog 14 true_F :=
  pure_of (T := tbl []) (tbl_ok (by simp)) rfl rfl fun dvs rs hF => by
    obtain ⟨x, hx, rfl, rfl⟩ := orcOf_inv hF
    exact WC_true wakes16
noncomputable abbrev garlandlaw16_wakes_F := true_F
end Go.Proofs.Ytbeocehhclfbiaa.Lite
namespace Go.Proofs.Ytbeocehhclfbiaa.Lite
open Go
attribute [local simp] WL_of WL_nil WL_blk WL_skip WL_label WL_exit WL_goto WL_seq WL_block WL_cond WL_reg WL_ret WJ_nil WJ_ex WJ_gt WJ_rt WJ_exb WJ_gtb WJ_rtb WLO_nil WLO_call WO_mv WO_pick WO_new WO_box WO_ld WO_ldn WO_st WO_off WO_ixa WO_ixs WO_fld WO_fldn WO_ixv WO_ixvn WO_ixb WO_bin WO_eqb WO_isn WO_eqs WO_not WO_conv WO_mkf WO_bld WO_bls WO_sla WO_sls WO_sl0 WO_len WO_app WO_mnx WO_ext WO_nilc wants_none wants_some wantv_b wantv_t WLV_true WLV_false WLC_false WLB_true WLB_false evX_t evX_c evXs_nil evXs_cons look_put look_putN look_cons look_arg0 look_arg stepK binOpA intOp strOp evRes oneOf outs gc toDV AV.dat? I Bo av_s List.map List.append_nil getO putO AV.cellsOf bne WL_dreg WLP_nil WLP_call WP_mv WP_pick WP_new WP_box WP_ld WP_ldn WP_off WP_ixa WP_ixs WP_fld WP_fldn WP_ixv WP_ixvn WP_ixb WP_bin WP_eqb WP_isn WP_eqs WP_not WP_conv WP_mkf WP_bld WP_bls WP_sla WP_sls WP_sl0 WP_len WP_app WP_mnx WP_ext WP_nilc WLPV_true WLPV_false WLPC_false WLC_tells WLPC_tells padH onNm onEx List.getElem?_cons_zero List.getElem?_cons_succ List.getElem?_nil restrict AV.lows lay AV.isCell lowObj AObj.lows WJ_nm AV.lows.go WL_scope onGt_rt onGt_nm onGt_ex WL_sreg WP_st preSt eraseB List.set_cons_zero List.set_cons_succ

noncomputable def TH3 : Tbl := tbl [(24, garlandref13_Right_F), (14, garlandlaw16_wakes_F), (15, hop_Next_F), (25, garlandref13_First_F), (26, garlandref03_Far_F), (17, hop_Left_F), (22, hop_Closer_F)]
theorem TH3_ok : TblOK Try.prog TH3 := tbl_ok (by
  simp only [List.mem_cons, List.not_mem_nil, or_false]
  rintro p (rfl | rfl | rfl | rfl | rfl | rfl | rfl)
  · exact garlandref13_Right
  · exact garlandlaw16_wakes
  · exact hop_Next
  · exact garlandref13_First
  · exact garlandref03_Far
  · exact hop_Left
  · exact hop_Closer)
instance : Has TH3 24 garlandref13_Right_F := ⟨rfl⟩
instance : Has TH3 14 garlandlaw16_wakes_F := ⟨rfl⟩
instance : Has TH3 15 hop_Next_F := ⟨rfl⟩
instance : Has TH3 25 garlandref13_First_F := ⟨rfl⟩
instance : Has TH3 26 garlandref03_Far_F := ⟨rfl⟩
instance : Has TH3 17 hop_Left_F := ⟨rfl⟩
instance : Has TH3 22 hop_Closer_F := ⟨rfl⟩

noncomputable def HopCloser_F := orcOf (fun p : VW × Int × Bool => [V p.1, I p.2.1, Bo p.2.2]) (fun _ => True) (fun _ => [Bo true])
theorem garlandlaw16_HopCloser : Pure Try.prog 4 HopCloser_F := by
  refine con TH3_ok rfl rfl fun ⟨v, k, s⟩ _ => ⟨rfl, ?_⟩
  cases hr : v.right with
  | false => simp [cf4, V_av, -getElem?_pos, cs_0, cs_length, cs_take, cs_all, cs_lows, hr]
  | true =>
    obtain ⟨p0, p1, p2⟩ := next_place hr k s
    have e1 : decide ((v.next k s).1 < 0) = false := by simp; omega
    have e2 : decide ((v.next k s).1 ≥ 65536) = false := by simp; omega
    have e3 : ((v.next k s).1 == v.id) = false := by simpa using p2
    have e1' : ¬ (v.next k s).1 < 0 := by omega
    have e2' : ¬ 65536 ≤ (v.next k s).1 := by omega
    cases ho : (v.next k s).2 with
    | true =>
      obtain ⟨f1, f2, f3⟩ := next_own hr ho
      rw [f1] at e1 e2 e3 e1' e2'
      simp [cf4, V_av, -getElem?_pos, cs_0, cs_length, cs_take, cs_all, cs_lows, hr, ho, e1, e2, e3, e1', e2', f1, f2, f3]
    | false =>
      obtain ⟨g1, g2, g3, g4, g5, g6, g7, g8⟩ := next_not hr ho
      have e5 := closer_iff g3 g4
      rw [← left_ok hr] at g4
      simp [cf4, V_av, -getElem?_pos, cs_0, cs_length, cs_take, cs_all, cs_lows, hr, ho, e1, e2, e3, e1', e2', g3, g4, e5, g5]
      cases s with
      | true =>
        have e6 := g6 rfl
        simp [-getElem?_pos, e6, cs_0, cs_length, cs_take, cs_all, cs_lows, g5]
      | false =>
        simp [-getElem?_pos, cs_0, cs_length, cs_take, cs_all, cs_lows, g5]
noncomputable abbrev garlandlaw16_HopCloser_F := HopCloser_F
end Go.Proofs.Ytbeocehhclfbiaa.Lite
namespace Go.Proofs.Ytbeocehhclfbiaa.Lite
open Go
attribute [local simp] WL_of WL_nil WL_blk WL_skip WL_label WL_exit WL_goto WL_seq WL_block WL_cond WL_reg WL_ret WJ_nil WJ_ex WJ_gt WJ_rt WJ_exb WJ_gtb WJ_rtb WLO_nil WLO_call WO_mv WO_pick WO_new WO_box WO_ld WO_ldn WO_st WO_off WO_ixa WO_ixs WO_fld WO_fldn WO_ixv WO_ixvn WO_ixb WO_bin WO_eqb WO_isn WO_eqs WO_not WO_conv WO_mkf WO_bld WO_bls WO_sla WO_sls WO_sl0 WO_len WO_app WO_mnx WO_ext WO_nilc wants_none wants_some wantv_b wantv_t WLV_true WLV_false WLC_false WLB_true WLB_false evX_t evX_c evXs_nil evXs_cons look_put look_putN look_cons look_arg0 look_arg stepK binOpA intOp strOp evRes oneOf outs gc toDV AV.dat? I Bo av_s List.map List.append_nil getO putO AV.cellsOf bne WL_dreg WLP_nil WLP_call WP_mv WP_pick WP_new WP_box WP_ld WP_ldn WP_off WP_ixa WP_ixs WP_fld WP_fldn WP_ixv WP_ixvn WP_ixb WP_bin WP_eqb WP_isn WP_eqs WP_not WP_conv WP_mkf WP_bld WP_bls WP_sla WP_sls WP_sl0 WP_len WP_app WP_mnx WP_ext WP_nilc WLPV_true WLPV_false WLPC_false WLC_tells WLPC_tells padH onNm onEx List.getElem?_cons_zero List.getElem?_cons_succ List.getElem?_nil restrict AV.lows lay AV.isCell lowObj AObj.lows WJ_nm AV.lows.go WL_scope onGt_rt onGt_nm onGt_ex WL_sreg WP_st preSt eraseB List.set_cons_zero List.set_cons_succ

def rowsV (l : List VW) : List (List Dat) := l.map VW.dats
theorem rowsV_get (l : List VW) (i : Nat) : (rowsV l)[i]? = (l[i]?).map VW.dats := by simp [rowsV]
theorem rowsV_length (l : List VW) : (rowsV l).length = l.length := by simp [rowsV]
theorem vd_length (v : VW) : v.dats.length = 20 := by simp [VW.dats, v.hf]
theorem vd_take (v : VW) : v.dats.take 20 = v.dats := List.take_of_length_le (by rw [vd_length]; exact Nat.le_refl _)
theorem vd_map (v : VW) : v.dats.map AV.d = v.cs := by simp [VW.dats, VW.cs]
theorem vd_0 (v : VW) : v.dats[0]? = some (.int .i64 v.id) := rfl

def cnt (l : List VW) (k : Int) (v : VW) : Nat := l.countP fun u => decide (left u.id k < left v.id k)
theorem countP_lt {p q : VW → Bool} : ∀ {l : List VW} {w : VW}, (∀ u, p u = true → q u = true) → w ∈ l → q w = true → p w = false → l.countP p < l.countP q
  | [], w, _, h, _, _ => by cases h
  | x :: l, w, hpq, hw, h1, h2 => by
    rcases List.mem_cons.1 hw with rfl | hw
    · rw [List.countP_cons_of_pos h1, List.countP_cons_of_neg (by simp [h2])]
      exact Nat.lt_succ_of_le (List.countP_mono_left fun u _ => hpq u)
    · have := countP_lt hpq hw h1 h2
      rw [List.countP_cons, List.countP_cons]
      cases hx : p x with
      | true => simp [hpq x hx]; omega
      | false => cases q x <;> simp <;> omega
theorem cnt_lt {l : List VW} {k : Int} {v w : VW} (hw : w ∈ l) (h : left w.id k < left v.id k) : cnt l k w < cnt l k v :=
  countP_lt (w := w) (fun u hu => by simp at hu ⊢; omega) hw (by simp [h]) (by simp)
theorem cnt_len {l : List VW} {k : Int} {v : VW} (hv : v ∈ l) : cnt l k v < l.length := by
  have := countP_lt (l := l) (w := v) (p := fun u => decide (left u.id k < left v.id k)) (q := fun _ => true) (fun _ _ => rfl) hv rfl (by simp)
  rw [List.countP_true] at this
  exact this

noncomputable def TH5 : Tbl := tbl [(24, garlandref13_Right_F), (14, garlandlaw16_wakes_F), (15, hop_Next_F), (22, hop_Closer_F)]
theorem TH5_ok : TblOK Try.prog TH5 := tbl_ok (by
  simp only [List.mem_cons, List.not_mem_nil, or_false]
  rintro p (rfl | rfl | rfl | rfl)
  · exact garlandref13_Right
  · exact garlandlaw16_wakes
  · exact hop_Next
  · exact hop_Closer)
instance : Has TH5 24 garlandref13_Right_F := ⟨rfl⟩
instance : Has TH5 14 garlandlaw16_wakes_F := ⟨rfl⟩
instance : Has TH5 15 hop_Next_F := ⟨rfl⟩
instance : Has TH5 22 hop_Closer_F := ⟨rfl⟩

def L5a : CCode := (.loop [0, 1, 2, 3, 9] (.seq (.seq (.reg (⟨(some 25), .mv (.t 9), none⟩ ::
    ⟨(some 26), .mv (.t 0), none⟩ ::
    ⟨(some 27), .len false (.t 26), none⟩ ::
    ⟨(some 28), .bin .lss (.t 25) (.t 27), none⟩ ::
    []))
  (.cond (.t 28) .skip (.exit 0)))
  (.seq (.block 1 (.seq (.seq (.reg (⟨(some 31), .mv (.t 0), none⟩ ::
    ⟨(some 32), .mv (.t 9), none⟩ ::
    ⟨(some 33), .ixs 20 (.t 31) (.t 32), none⟩ ::
    ⟨(some 34), .ldn 20 (.t 33), none⟩ ::
    ⟨(some 35), .call (.c (.fn 24 [])) [(.t 34)], none⟩ ::
    ⟨(some 36), .not (.t 35), none⟩ ::
    []))
  (.cond (.t 36) (.seq (.reg (⟨(some 37), .call (.c (.fn 14 [])) [], none⟩ ::
    ⟨(some 8), .mv (.t 37), none⟩ ::
    []))
  .ret) .skip))
  (.seq (.reg (⟨(some 10), .mv (.c (.d (.int .i64 0))), none⟩ ::
    []))
  (.block 2 (.loop [0, 1, 2, 3, 9, 10] (.seq (.seq (.reg (⟨(some 38), .mv (.t 10), none⟩ ::
    ⟨(some 39), .mv (.t 9), none⟩ ::
    ⟨(some 40), .bin .lss (.t 38) (.t 39), none⟩ ::
    []))
  (.cond (.t 40) .skip (.exit 2)))
  (.seq (.block 3 (.seq (.dreg (⟨(some 43), .mv (.t 0), none⟩ ::
    ⟨(some 44), .mv (.t 10), none⟩ ::
    ⟨(some 45), .ixs 20 (.t 43) (.t 44), none⟩ ::
    ⟨(some 46), .off 0 (.t 45), none⟩ ::
    ⟨(some 47), .ld (.t 46), none⟩ ::
    ⟨(some 48), .mv (.t 0), none⟩ ::
    ⟨(some 49), .mv (.t 9), none⟩ ::
    ⟨(some 50), .ixs 20 (.t 48) (.t 49), none⟩ ::
    ⟨(some 51), .off 0 (.t 50), none⟩ ::
    ⟨(some 52), .ld (.t 51), none⟩ ::
    ⟨(some 53), .bin .eql (.t 47) (.t 52), none⟩ ::
    []) ([]))
  (.cond (.t 53) (.seq (.reg (⟨(some 54), .call (.c (.fn 14 [])) [], none⟩ ::
    ⟨(some 8), .mv (.t 54), none⟩ ::
    []))
  .ret) .skip)))
  (.reg (⟨(some 41), .mv (.t 10), none⟩ ::
    ⟨(some 42), .bin .add (.t 41) (.c (.d (.int .i64 1))), none⟩ ::
    ⟨(some 10), .mv (.t 42), none⟩ ::
    [])))))))))
  (.reg (⟨(some 29), .mv (.t 9), none⟩ ::
    ⟨(some 30), .bin .add (.t 29) (.c (.d (.int .i64 1))), none⟩ ::
    ⟨(some 9), .mv (.t 30), none⟩ ::
    [])))))
theorem L5a_eq : L5a = .loop [0, 1, 2, 3, 9] (.seq (.seq (.reg (⟨(some 25), .mv (.t 9), none⟩ ::
    ⟨(some 26), .mv (.t 0), none⟩ ::
    ⟨(some 27), .len false (.t 26), none⟩ ::
    ⟨(some 28), .bin .lss (.t 25) (.t 27), none⟩ ::
    []))
  (.cond (.t 28) .skip (.exit 0)))
  (.seq (.block 1 (.seq (.seq (.reg (⟨(some 31), .mv (.t 0), none⟩ ::
    ⟨(some 32), .mv (.t 9), none⟩ ::
    ⟨(some 33), .ixs 20 (.t 31) (.t 32), none⟩ ::
    ⟨(some 34), .ldn 20 (.t 33), none⟩ ::
    ⟨(some 35), .call (.c (.fn 24 [])) [(.t 34)], none⟩ ::
    ⟨(some 36), .not (.t 35), none⟩ ::
    []))
  (.cond (.t 36) (.seq (.reg (⟨(some 37), .call (.c (.fn 14 [])) [], none⟩ ::
    ⟨(some 8), .mv (.t 37), none⟩ ::
    []))
  .ret) .skip))
  (.seq (.reg (⟨(some 10), .mv (.c (.d (.int .i64 0))), none⟩ ::
    []))
  (.block 2 (.loop [0, 1, 2, 3, 9, 10] (.seq (.seq (.reg (⟨(some 38), .mv (.t 10), none⟩ ::
    ⟨(some 39), .mv (.t 9), none⟩ ::
    ⟨(some 40), .bin .lss (.t 38) (.t 39), none⟩ ::
    []))
  (.cond (.t 40) .skip (.exit 2)))
  (.seq (.block 3 (.seq (.dreg (⟨(some 43), .mv (.t 0), none⟩ ::
    ⟨(some 44), .mv (.t 10), none⟩ ::
    ⟨(some 45), .ixs 20 (.t 43) (.t 44), none⟩ ::
    ⟨(some 46), .off 0 (.t 45), none⟩ ::
    ⟨(some 47), .ld (.t 46), none⟩ ::
    ⟨(some 48), .mv (.t 0), none⟩ ::
    ⟨(some 49), .mv (.t 9), none⟩ ::
    ⟨(some 50), .ixs 20 (.t 48) (.t 49), none⟩ ::
    ⟨(some 51), .off 0 (.t 50), none⟩ ::
    ⟨(some 52), .ld (.t 51), none⟩ ::
    ⟨(some 53), .bin .eql (.t 47) (.t 52), none⟩ ::
    []) ([]))
  (.cond (.t 53) (.seq (.reg (⟨(some 54), .call (.c (.fn 14 [])) [], none⟩ ::
    ⟨(some 8), .mv (.t 54), none⟩ ::
    []))
  .ret) .skip)))
  (.reg (⟨(some 41), .mv (.t 10), none⟩ ::
    ⟨(some 42), .bin .add (.t 41) (.c (.d (.int .i64 1))), none⟩ ::
    ⟨(some 10), .mv (.t 42), none⟩ ::
    [])))))))))
  (.reg (⟨(some 29), .mv (.t 9), none⟩ ::
    ⟨(some 30), .bin .add (.t 29) (.c (.d (.int .i64 1))), none⟩ ::
    ⟨(some 9), .mv (.t 30), none⟩ ::
    [])))) := rfl
def L5b : CCode := (.loop [0, 1, 2, 3, 9, 10] (.seq (.seq (.reg (⟨(some 38), .mv (.t 10), none⟩ ::
    ⟨(some 39), .mv (.t 9), none⟩ ::
    ⟨(some 40), .bin .lss (.t 38) (.t 39), none⟩ ::
    []))
  (.cond (.t 40) .skip (.exit 2)))
  (.seq (.block 3 (.seq (.dreg (⟨(some 43), .mv (.t 0), none⟩ ::
    ⟨(some 44), .mv (.t 10), none⟩ ::
    ⟨(some 45), .ixs 20 (.t 43) (.t 44), none⟩ ::
    ⟨(some 46), .off 0 (.t 45), none⟩ ::
    ⟨(some 47), .ld (.t 46), none⟩ ::
    ⟨(some 48), .mv (.t 0), none⟩ ::
    ⟨(some 49), .mv (.t 9), none⟩ ::
    ⟨(some 50), .ixs 20 (.t 48) (.t 49), none⟩ ::
    ⟨(some 51), .off 0 (.t 50), none⟩ ::
    ⟨(some 52), .ld (.t 51), none⟩ ::
    ⟨(some 53), .bin .eql (.t 47) (.t 52), none⟩ ::
    []) ([]))
  (.cond (.t 53) (.seq (.reg (⟨(some 54), .call (.c (.fn 14 [])) [], none⟩ ::
    ⟨(some 8), .mv (.t 54), none⟩ ::
    []))
  .ret) .skip)))
  (.reg (⟨(some 41), .mv (.t 10), none⟩ ::
    ⟨(some 42), .bin .add (.t 41) (.c (.d (.int .i64 1))), none⟩ ::
    ⟨(some 10), .mv (.t 42), none⟩ ::
    [])))))
theorem L5b_eq : L5b = .loop [0, 1, 2, 3, 9, 10] (.seq (.seq (.reg (⟨(some 38), .mv (.t 10), none⟩ ::
    ⟨(some 39), .mv (.t 9), none⟩ ::
    ⟨(some 40), .bin .lss (.t 38) (.t 39), none⟩ ::
    []))
  (.cond (.t 40) .skip (.exit 2)))
  (.seq (.block 3 (.seq (.dreg (⟨(some 43), .mv (.t 0), none⟩ ::
    ⟨(some 44), .mv (.t 10), none⟩ ::
    ⟨(some 45), .ixs 20 (.t 43) (.t 44), none⟩ ::
    ⟨(some 46), .off 0 (.t 45), none⟩ ::
    ⟨(some 47), .ld (.t 46), none⟩ ::
    ⟨(some 48), .mv (.t 0), none⟩ ::
    ⟨(some 49), .mv (.t 9), none⟩ ::
    ⟨(some 50), .ixs 20 (.t 48) (.t 49), none⟩ ::
    ⟨(some 51), .off 0 (.t 50), none⟩ ::
    ⟨(some 52), .ld (.t 51), none⟩ ::
    ⟨(some 53), .bin .eql (.t 47) (.t 52), none⟩ ::
    []) ([]))
  (.cond (.t 53) (.seq (.reg (⟨(some 54), .call (.c (.fn 14 [])) [], none⟩ ::
    ⟨(some 8), .mv (.t 54), none⟩ ::
    []))
  .ret) .skip)))
  (.reg (⟨(some 41), .mv (.t 10), none⟩ ::
    ⟨(some 42), .bin .add (.t 41) (.c (.d (.int .i64 1))), none⟩ ::
    ⟨(some 10), .mv (.t 42), none⟩ ::
    [])))) := rfl
def L5c : CCode := (.loop [0, 1, 2, 3, 11] (.seq (.seq (.reg (⟨(some 65), .mv (.t 11), none⟩ ::
    ⟨(some 66), .mv (.t 0), none⟩ ::
    ⟨(some 67), .len false (.t 66), none⟩ ::
    ⟨(some 68), .bin .lss (.t 65) (.t 67), none⟩ ::
    []))
  (.cond (.t 68) .skip (.exit 4)))
  (.seq (.block 5 (.seq (.reg (⟨(some 72), .mv (.t 0), none⟩ ::
    ⟨(some 73), .mv (.t 2), none⟩ ::
    ⟨(some 74), .ixs 20 (.t 72) (.t 73), none⟩ ::
    ⟨(some 75), .ldn 20 (.t 74), none⟩ ::
    ⟨(some 76), .mv (.t 1), none⟩ ::
    ⟨(some 77), .mv (.t 3), none⟩ ::
    ⟨(some 78), .call (.c (.fn 15 [])) [(.t 75), (.t 76), (.t 77)], none⟩ ::
    ⟨(some 71), .mv (.t 78), none⟩ ::
    ⟨(some 79), .ext (.t 71) 0, none⟩ ::
    ⟨(some 80), .ext (.t 71) 1, none⟩ ::
    ⟨(some 12), .mv (.t 79), none⟩ ::
    ⟨(some 13), .mv (.t 80), none⟩ ::
    []))
  (.seq (.seq (.reg (⟨(some 81), .mv (.t 13), none⟩ ::
    []))
  (.cond (.t 81) (.seq (.reg (⟨(some 82), .call (.c (.fn 14 [])) [], none⟩ ::
    ⟨(some 8), .mv (.t 82), none⟩ ::
    []))
  .ret) .skip))
  (.seq (.seq (.reg (⟨(some 83), .mv (.t 1), none⟩ ::
    ⟨(some 84), .mv (.t 0), none⟩ ::
    ⟨(some 85), .mv (.t 2), none⟩ ::
    ⟨(some 86), .ixs 20 (.t 84) (.t 85), none⟩ ::
    ⟨(some 87), .off 0 (.t 86), none⟩ ::
    ⟨(some 88), .ld (.t 87), none⟩ ::
    ⟨(some 89), .mv (.t 12), none⟩ ::
    ⟨(some 90), .call (.c (.fn 22 [])) [(.t 83), (.t 88), (.t 89)], none⟩ ::
    ⟨(some 91), .not (.t 90), none⟩ ::
    []))
  (.cond (.t 91) (.seq (.reg (⟨(some 8), .mv (.c (.d (.bool false))), none⟩ ::
    []))
  .ret) .skip))
  (.seq (.reg (⟨(some 14), .mv (.c (.d (.int .i64 (-1)))), none⟩ ::
    []))
  (.seq (.seq (.reg (⟨(some 15), .mv (.c (.d (.int .i64 0))), none⟩ ::
    []))
  (.block 6 (.loop [0, 1, 3, 11, 12, 14, 15] (.seq (.seq (.reg (⟨(some 92), .mv (.t 15), none⟩ ::
    ⟨(some 93), .mv (.t 0), none⟩ ::
    ⟨(some 94), .len false (.t 93), none⟩ ::
    ⟨(some 95), .bin .lss (.t 92) (.t 94), none⟩ ::
    []))
  (.cond (.t 95) .skip (.exit 6)))
  (.seq (.block 7 (.seq (.reg (⟨(some 98), .mv (.t 0), none⟩ ::
    ⟨(some 99), .mv (.t 15), none⟩ ::
    ⟨(some 100), .ixs 20 (.t 98) (.t 99), none⟩ ::
    ⟨(some 101), .off 0 (.t 100), none⟩ ::
    ⟨(some 102), .ld (.t 101), none⟩ ::
    ⟨(some 103), .mv (.t 12), none⟩ ::
    ⟨(some 104), .bin .eql (.t 102) (.t 103), none⟩ ::
    []))
  (.cond (.t 104) (.reg (⟨(some 105), .mv (.t 15), none⟩ ::
    ⟨(some 14), .mv (.t 105), none⟩ ::
    [])) .skip)))
  (.reg (⟨(some 96), .mv (.t 15), none⟩ ::
    ⟨(some 97), .bin .add (.t 96) (.c (.d (.int .i64 1))), none⟩ ::
    ⟨(some 15), .mv (.t 97), none⟩ ::
    [])))))))
  (.seq (.seq (.reg (⟨(some 106), .mv (.t 14), none⟩ ::
    ⟨(some 107), .bin .lss (.t 106) (.c (.d (.int .i64 0))), none⟩ ::
    []))
  (.cond (.t 107) (.seq (.reg (⟨(some 108), .call (.c (.fn 14 [])) [], none⟩ ::
    ⟨(some 8), .mv (.t 108), none⟩ ::
    []))
  .ret) .skip))
  (.reg (⟨(some 109), .mv (.t 14), none⟩ ::
    ⟨(some 2), .mv (.t 109), none⟩ ::
    [])))))))))
  (.reg (⟨(some 69), .mv (.t 11), none⟩ ::
    ⟨(some 70), .bin .add (.t 69) (.c (.d (.int .i64 1))), none⟩ ::
    ⟨(some 11), .mv (.t 70), none⟩ ::
    [])))))
theorem L5c_eq : L5c = .loop [0, 1, 2, 3, 11] (.seq (.seq (.reg (⟨(some 65), .mv (.t 11), none⟩ ::
    ⟨(some 66), .mv (.t 0), none⟩ ::
    ⟨(some 67), .len false (.t 66), none⟩ ::
    ⟨(some 68), .bin .lss (.t 65) (.t 67), none⟩ ::
    []))
  (.cond (.t 68) .skip (.exit 4)))
  (.seq (.block 5 (.seq (.reg (⟨(some 72), .mv (.t 0), none⟩ ::
    ⟨(some 73), .mv (.t 2), none⟩ ::
    ⟨(some 74), .ixs 20 (.t 72) (.t 73), none⟩ ::
    ⟨(some 75), .ldn 20 (.t 74), none⟩ ::
    ⟨(some 76), .mv (.t 1), none⟩ ::
    ⟨(some 77), .mv (.t 3), none⟩ ::
    ⟨(some 78), .call (.c (.fn 15 [])) [(.t 75), (.t 76), (.t 77)], none⟩ ::
    ⟨(some 71), .mv (.t 78), none⟩ ::
    ⟨(some 79), .ext (.t 71) 0, none⟩ ::
    ⟨(some 80), .ext (.t 71) 1, none⟩ ::
    ⟨(some 12), .mv (.t 79), none⟩ ::
    ⟨(some 13), .mv (.t 80), none⟩ ::
    []))
  (.seq (.seq (.reg (⟨(some 81), .mv (.t 13), none⟩ ::
    []))
  (.cond (.t 81) (.seq (.reg (⟨(some 82), .call (.c (.fn 14 [])) [], none⟩ ::
    ⟨(some 8), .mv (.t 82), none⟩ ::
    []))
  .ret) .skip))
  (.seq (.seq (.reg (⟨(some 83), .mv (.t 1), none⟩ ::
    ⟨(some 84), .mv (.t 0), none⟩ ::
    ⟨(some 85), .mv (.t 2), none⟩ ::
    ⟨(some 86), .ixs 20 (.t 84) (.t 85), none⟩ ::
    ⟨(some 87), .off 0 (.t 86), none⟩ ::
    ⟨(some 88), .ld (.t 87), none⟩ ::
    ⟨(some 89), .mv (.t 12), none⟩ ::
    ⟨(some 90), .call (.c (.fn 22 [])) [(.t 83), (.t 88), (.t 89)], none⟩ ::
    ⟨(some 91), .not (.t 90), none⟩ ::
    []))
  (.cond (.t 91) (.seq (.reg (⟨(some 8), .mv (.c (.d (.bool false))), none⟩ ::
    []))
  .ret) .skip))
  (.seq (.reg (⟨(some 14), .mv (.c (.d (.int .i64 (-1)))), none⟩ ::
    []))
  (.seq (.seq (.reg (⟨(some 15), .mv (.c (.d (.int .i64 0))), none⟩ ::
    []))
  (.block 6 (.loop [0, 1, 3, 11, 12, 14, 15] (.seq (.seq (.reg (⟨(some 92), .mv (.t 15), none⟩ ::
    ⟨(some 93), .mv (.t 0), none⟩ ::
    ⟨(some 94), .len false (.t 93), none⟩ ::
    ⟨(some 95), .bin .lss (.t 92) (.t 94), none⟩ ::
    []))
  (.cond (.t 95) .skip (.exit 6)))
  (.seq (.block 7 (.seq (.reg (⟨(some 98), .mv (.t 0), none⟩ ::
    ⟨(some 99), .mv (.t 15), none⟩ ::
    ⟨(some 100), .ixs 20 (.t 98) (.t 99), none⟩ ::
    ⟨(some 101), .off 0 (.t 100), none⟩ ::
    ⟨(some 102), .ld (.t 101), none⟩ ::
    ⟨(some 103), .mv (.t 12), none⟩ ::
    ⟨(some 104), .bin .eql (.t 102) (.t 103), none⟩ ::
    []))
  (.cond (.t 104) (.reg (⟨(some 105), .mv (.t 15), none⟩ ::
    ⟨(some 14), .mv (.t 105), none⟩ ::
    [])) .skip)))
  (.reg (⟨(some 96), .mv (.t 15), none⟩ ::
    ⟨(some 97), .bin .add (.t 96) (.c (.d (.int .i64 1))), none⟩ ::
    ⟨(some 15), .mv (.t 97), none⟩ ::
    [])))))))
  (.seq (.seq (.reg (⟨(some 106), .mv (.t 14), none⟩ ::
    ⟨(some 107), .bin .lss (.t 106) (.c (.d (.int .i64 0))), none⟩ ::
    []))
  (.cond (.t 107) (.seq (.reg (⟨(some 108), .call (.c (.fn 14 [])) [], none⟩ ::
    ⟨(some 8), .mv (.t 108), none⟩ ::
    []))
  .ret) .skip))
  (.reg (⟨(some 109), .mv (.t 14), none⟩ ::
    ⟨(some 2), .mv (.t 109), none⟩ ::
    [])))))))))
  (.reg (⟨(some 69), .mv (.t 11), none⟩ ::
    ⟨(some 70), .bin .add (.t 69) (.c (.d (.int .i64 1))), none⟩ ::
    ⟨(some 11), .mv (.t 70), none⟩ ::
    [])))) := rfl
def L5d : CCode := (.loop [0, 1, 3, 11, 12, 14, 15] (.seq (.seq (.reg (⟨(some 92), .mv (.t 15), none⟩ ::
    ⟨(some 93), .mv (.t 0), none⟩ ::
    ⟨(some 94), .len false (.t 93), none⟩ ::
    ⟨(some 95), .bin .lss (.t 92) (.t 94), none⟩ ::
    []))
  (.cond (.t 95) .skip (.exit 6)))
  (.seq (.block 7 (.seq (.reg (⟨(some 98), .mv (.t 0), none⟩ ::
    ⟨(some 99), .mv (.t 15), none⟩ ::
    ⟨(some 100), .ixs 20 (.t 98) (.t 99), none⟩ ::
    ⟨(some 101), .off 0 (.t 100), none⟩ ::
    ⟨(some 102), .ld (.t 101), none⟩ ::
    ⟨(some 103), .mv (.t 12), none⟩ ::
    ⟨(some 104), .bin .eql (.t 102) (.t 103), none⟩ ::
    []))
  (.cond (.t 104) (.reg (⟨(some 105), .mv (.t 15), none⟩ ::
    ⟨(some 14), .mv (.t 105), none⟩ ::
    [])) .skip)))
  (.reg (⟨(some 96), .mv (.t 15), none⟩ ::
    ⟨(some 97), .bin .add (.t 96) (.c (.d (.int .i64 1))), none⟩ ::
    ⟨(some 15), .mv (.t 97), none⟩ ::
    [])))))
theorem L5d_eq : L5d = .loop [0, 1, 3, 11, 12, 14, 15] (.seq (.seq (.reg (⟨(some 92), .mv (.t 15), none⟩ ::
    ⟨(some 93), .mv (.t 0), none⟩ ::
    ⟨(some 94), .len false (.t 93), none⟩ ::
    ⟨(some 95), .bin .lss (.t 92) (.t 94), none⟩ ::
    []))
  (.cond (.t 95) .skip (.exit 6)))
  (.seq (.block 7 (.seq (.reg (⟨(some 98), .mv (.t 0), none⟩ ::
    ⟨(some 99), .mv (.t 15), none⟩ ::
    ⟨(some 100), .ixs 20 (.t 98) (.t 99), none⟩ ::
    ⟨(some 101), .off 0 (.t 100), none⟩ ::
    ⟨(some 102), .ld (.t 101), none⟩ ::
    ⟨(some 103), .mv (.t 12), none⟩ ::
    ⟨(some 104), .bin .eql (.t 102) (.t 103), none⟩ ::
    []))
  (.cond (.t 104) (.reg (⟨(some 105), .mv (.t 15), none⟩ ::
    ⟨(some 14), .mv (.t 105), none⟩ ::
    [])) .skip)))
  (.reg (⟨(some 96), .mv (.t 15), none⟩ ::
    ⟨(some 97), .bin .add (.t 96) (.c (.d (.int .i64 1))), none⟩ ::
    ⟨(some 15), .mv (.t 97), none⟩ ::
    [])))) := rfl

theorem ends_b (l : List VW) (k a : Int) (s : Bool) (i : Nat) (hi : i < l.length) (hl : l.length ≤ 8) : ∀ (m j : Nat), i - j = m → j ≤ i → ∀ (env : Env),
    look env 0 = some (.d (.sl (rowsV l))) → look env 1 = some (.d (.int .i64 k)) → look env 2 = some (.d (.int .i64 a)) → look env 3 = some (.d (.bool s)) → look env 9 = some (.d (.int .i64 i)) → look env 10 = some (.d (.int .i64 j)) →
    ∀ (Q : Ex → Env → St → Prop), (∀ env', look env' 0 = some (.d (.sl (rowsV l))) → look env' 1 = some (.d (.int .i64 k)) → look env' 2 = some (.d (.int .i64 a)) → look env' 3 = some (.d (.bool s)) → look env' 9 = some (.d (.int .i64 i)) → Q (.ex 2) env' ⟨[], []⟩) →
      (∀ env' h', look env' 8 = some (.d (.bool true)) → Q .rt env' ⟨h', []⟩) → W TH5 ⟨[], 0⟩ L5b env ⟨[], []⟩ Q := by
  intro m
  induction m with
  | zero =>
    intro j hm hj env h0 h1 h2 h3 h9 h10 Q hQ1 hQ2
    have hlt : ¬ j < i := by omega
    rw [L5b_eq, W_loop]
    simp [-getElem?_pos, h0, h1, h2, h3, h9, h10, hlt]
    refine hQ1 _ ?_ ?_ ?_ ?_ ?_ <;> simp [-getElem?_pos, h0, h1, h2, h3, h9]
  | succ m ih =>
    intro j hm hj env h0 h1 h2 h3 h9 h10 Q hQ1 hQ2
    have hlt : j < i := by omega
    obtain ⟨v, hv⟩ : ∃ v, l[j]? = some v := ⟨_, List.getElem?_eq_getElem (by omega)⟩
    obtain ⟨u, hu⟩ : ∃ u, l[i]? = some u := ⟨_, List.getElem?_eq_getElem hi⟩
    have hw := wrapN1 j (by omega)
    rw [L5b_eq, W_loop]
    simp [-getElem?_pos, h0, h1, h2, h3, h9, h10, hlt, rowsV_get, hv, hu, vd_length, vd_0, -Int.natCast_add]
    all_goals (try (first | refine WLV_splitN (fun hs => ?_) (fun hs => ?_) | refine WLC_splitN (fun hs => ?_) (fun hs => ?_) | refine WLB_splitN (fun hs => ?_) (fun hs => ?_) | refine WLPV_splitN (fun hs => ?_) (fun hs => ?_) | refine WLPC_splitN (fun hs => ?_) (fun hs => ?_) | refine WLPV_split (fun hs => ?_) (fun hs => ?_) | refine WLPC_split (fun hs => ?_) (fun hs => ?_) | refine WLV_split (fun hs => ?_) (fun hs => ?_) | refine WLC_split (fun hs => ?_) (fun hs => ?_) | refine WLB_split (fun hs => ?_) (fun hs => ?_)))
    all_goals (try (have hs' := hs; simp at hs'))
    all_goals (try simp [*, -getElem?_pos, h0, h1, h2, h3, h9, h10, -Int.natCast_add])
    all_goals (refine (WL_of (c := L5b)).1 (ih (j + 1) (by omega) (by omega) _ ?_ ?_ ?_ ?_ ?_ ?_ Q hQ1 hQ2) <;> simp [-getElem?_pos, h0, h1, h2, h3, h9, hw, -Int.natCast_add])

theorem ends_a (l : List VW) (k a : Int) (s : Bool) (hl : l.length ≤ 8) : ∀ (m i : Nat), l.length - i = m → i ≤ l.length → (∀ v ∈ l.take i, v.right = true) → ∀ (env : Env),
    look env 0 = some (.d (.sl (rowsV l))) → look env 1 = some (.d (.int .i64 k)) → look env 2 = some (.d (.int .i64 a)) → look env 3 = some (.d (.bool s)) → look env 9 = some (.d (.int .i64 i)) →
    ∀ (Q : Ex → Env → St → Prop), ((∀ v ∈ l, v.right = true) → ∀ env', look env' 0 = some (.d (.sl (rowsV l))) → look env' 1 = some (.d (.int .i64 k)) → look env' 2 = some (.d (.int .i64 a)) → look env' 3 = some (.d (.bool s)) → Q (.ex 0) env' ⟨[], []⟩) →
      (∀ env' h', look env' 8 = some (.d (.bool true)) → Q .rt env' ⟨h', []⟩) → W TH5 ⟨[], 0⟩ L5a env ⟨[], []⟩ Q := by
  intro m
  induction m with
  | zero =>
    intro i hm hi hr env h0 h1 h2 h3 h9 Q hQ1 hQ2
    have hlt : ¬ i < l.length := by omega
    rw [L5a_eq, W_loop]
    simp [-getElem?_pos, h0, h1, h2, h3, h9, stepK.lenA, rowsV_length, hlt]
    refine hQ1 (by rw [List.take_of_length_le (by omega)] at hr; exact hr) _ ?_ ?_ ?_ ?_ <;> simp [-getElem?_pos, h0, h1, h2, h3]
  | succ m ih =>
    intro i hm hi hr env h0 h1 h2 h3 h9 Q hQ1 hQ2
    have hlt : i < l.length := by omega
    obtain ⟨v, hv⟩ : ∃ v, l[i]? = some v := ⟨_, List.getElem?_eq_getElem hlt⟩
    have hw := wrapN1 i (by omega)
    rw [L5a_eq, W_loop]
    cases hvr : v.right with
    | false =>
      simp [-getElem?_pos, h0, h1, h2, h3, h9, stepK.lenA, rowsV_length, hlt, rowsV_get, hv, vd_length, vd_take, vd_map, hvr, -Int.natCast_add]
      refine hQ2 _ _ ?_
      simp [-getElem?_pos]
    | true =>
      simp [-getElem?_pos, h0, h1, h2, h3, h9, stepK.lenA, rowsV_length, hlt, rowsV_get, hv, vd_length, vd_take, vd_map, hvr, -Int.natCast_add]
      rw [WL_code]
      refine ends_b l k a s i hlt hl i 0 (by omega) (by omega) _ ?_ ?_ ?_ ?_ ?_ ?_ _ (fun env' a0 a1 a2 a3 a9 => ?_) (fun env' h' a8 => ?_)
      all_goals (try (simp [-getElem?_pos, h0, h1, h2, h3, h9]; done))
      · simp [-getElem?_pos, a0, a1, a2, a3, a9, -Int.natCast_add]
        refine (WL_of (c := L5a)).1 (ih (i + 1) (by omega) (by omega) ?_ _ ?_ ?_ ?_ ?_ ?_ Q hQ1 hQ2)
        · intro u hu
          rw [List.take_add_one, hv] at hu
          rcases List.mem_append.1 hu with hu | hu
          · exact hr u hu
          · simp at hu; rw [hu]; exact hvr
        all_goals simp [-getElem?_pos, a0, a1, a2, a3, a9, hw, -Int.natCast_add]
      · simp [-getElem?_pos, a8]
        exact hQ2 _ _ a8

def isNx (l : List VW) (p x : Int) : Prop := x = -1 ∨ ∃ (q : Nat) (v : VW), x = q ∧ l[q]? = some v ∧ v.id = p

theorem ends_d (l : List VW) (k p : Int) (s : Bool) (hl : l.length ≤ 8) (n : Nat) : ∀ (m i : Nat), l.length - i = m → i ≤ l.length → ∀ (x : Int), isNx l p x → ∀ (env : Env),
    look env 0 = some (.d (.sl (rowsV l))) → look env 1 = some (.d (.int .i64 k)) → look env 3 = some (.d (.bool s)) → look env 11 = some (.d (.int .i64 n)) → look env 12 = some (.d (.int .i64 p)) → look env 14 = some (.d (.int .i64 x)) → look env 15 = some (.d (.int .i64 i)) →
    ∀ (Q : Ex → Env → St → Prop), (∀ x, isNx l p x → ∀ env', look env' 0 = some (.d (.sl (rowsV l))) → look env' 1 = some (.d (.int .i64 k)) → look env' 3 = some (.d (.bool s)) → look env' 11 = some (.d (.int .i64 n)) → look env' 14 = some (.d (.int .i64 x)) → Q (.ex 6) env' ⟨[], []⟩) →
      W TH5 ⟨[], 0⟩ L5d env ⟨[], []⟩ Q := by
  intro m
  induction m with
  | zero =>
    intro i hm hi x hx env h0 h1 h3 h11 h12 h14 h15 Q hQ
    have hlt : ¬ i < l.length := by omega
    rw [L5d_eq, W_loop]
    simp [-getElem?_pos, h0, h1, h3, h11, h12, h14, h15, stepK.lenA, rowsV_length, hlt]
    refine hQ x hx _ ?_ ?_ ?_ ?_ ?_ <;> simp [-getElem?_pos, h0, h1, h3, h11, h14]
  | succ m ih =>
    intro i hm hi x hx env h0 h1 h3 h11 h12 h14 h15 Q hQ
    have hlt : i < l.length := by omega
    obtain ⟨v, hv⟩ : ∃ v, l[i]? = some v := ⟨_, List.getElem?_eq_getElem hlt⟩
    have hw := wrapN1 i (by omega)
    rw [L5d_eq, W_loop]
    simp [-getElem?_pos, h0, h1, h3, h11, h12, h14, h15, stepK.lenA, rowsV_length, hlt, rowsV_get, hv, vd_length, vd_0, -Int.natCast_add]
    all_goals (try (first | refine WLV_splitN (fun hs => ?_) (fun hs => ?_) | refine WLC_splitN (fun hs => ?_) (fun hs => ?_) | refine WLB_splitN (fun hs => ?_) (fun hs => ?_) | refine WLPV_splitN (fun hs => ?_) (fun hs => ?_) | refine WLPC_splitN (fun hs => ?_) (fun hs => ?_) | refine WLPV_split (fun hs => ?_) (fun hs => ?_) | refine WLPC_split (fun hs => ?_) (fun hs => ?_) | refine WLV_split (fun hs => ?_) (fun hs => ?_) | refine WLC_split (fun hs => ?_) (fun hs => ?_) | refine WLB_split (fun hs => ?_) (fun hs => ?_)))
    all_goals (try (have hs' := hs; simp at hs'))
    all_goals (try simp [*, -getElem?_pos, h0, h1, h3, h11, h12, h14, h15, -Int.natCast_add])
    · refine (WL_of (c := L5d)).1 (ih (i + 1) (by omega) (by omega) (i : Int) (.inr ⟨i, v, rfl, hv, by simpa using hs⟩) _ ?_ ?_ ?_ ?_ ?_ ?_ ?_ Q hQ) <;> simp [*, -getElem?_pos, h0, h1, h3, h11, h12, h15, hw, -Int.natCast_add]
    · refine (WL_of (c := L5d)).1 (ih (i + 1) (by omega) (by omega) x hx _ ?_ ?_ ?_ ?_ ?_ ?_ ?_ Q hQ) <;> simp [*, -getElem?_pos, h0, h1, h3, h11, h12, h14, h15, hw, -Int.natCast_add]

theorem ends_c (l : List VW) (k : Int) (s : Bool) (hl : l.length ≤ 8) (hr : ∀ v ∈ l, v.right = true) : ∀ (m n : Nat), l.length - n = m → n ≤ l.length → ∀ (q : Nat) (v : VW), l[q]? = some v → cnt l k v + n < l.length → ∀ (env : Env),
    look env 0 = some (.d (.sl (rowsV l))) → look env 1 = some (.d (.int .i64 k)) → look env 2 = some (.d (.int .i64 q)) → look env 3 = some (.d (.bool s)) → look env 11 = some (.d (.int .i64 n)) →
    ∀ (Q : Ex → Env → St → Prop), (∀ env' h', look env' 8 = some (.d (.bool true)) → Q .rt env' ⟨h', []⟩) → W TH5 ⟨[], 0⟩ L5c env ⟨[], []⟩ Q := by
  intro m
  induction m with
  | zero =>
    intro n hm hn q v hv hc
    omega
  | succ m ih =>
    intro n hm hn q v hv hc env h0 h1 h2 h3 h11 Q hQ
    have hlt : n < l.length := by omega
    have hw := wrapN1 n (by omega)
    have hvl : v ∈ l := List.mem_of_getElem? hv
    have hvr := hr v hvl
    rw [L5c_eq, W_loop]
    cases ho : (v.next k s).2 with
    | true =>
      simp [-getElem?_pos, h0, h1, h2, h3, h11, stepK.lenA, rowsV_length, hlt, rowsV_get, hv, vd_length, vd_take, vd_map, ho, -Int.natCast_add]
      refine hQ _ _ ?_
      simp [-getElem?_pos]
    | false =>
      obtain ⟨g1, g2, g3, g4, _⟩ := next_not hvr ho
      have hcl := closer_iff g3 g4
      have hcl2 : left (v.next k s).1 k < left v.id k := by unfold closer at hcl; simpa using hcl
      have w1 : IntKind.i64.wrap (-1) = -1 := rfl
      simp [-getElem?_pos, h0, h1, h2, h3, h11, stepK.lenA, rowsV_length, hlt, rowsV_get, hv, vd_length, vd_take, vd_map, vd_0, ho, hcl, -Int.natCast_add]
      rw [WL_code]
      refine ends_d l k (v.next k s).1 s hl n l.length 0 (by omega) (by omega) (-1) (.inl rfl) _ ?_ ?_ ?_ ?_ ?_ ?_ ?_ _ (fun x hx env' a0 a1 a3 a11 a14 => ?_)
      all_goals (try (simp [-getElem?_pos, h0, h1, h3, h11, ho]; done))
      rcases hx with rfl | ⟨q', w, rfl, hq', hwid⟩
      · simp [-getElem?_pos, a0, a1, a3, a11, a14, -Int.natCast_add]
        refine hQ _ _ ?_
        simp [-getElem?_pos]
      · have hneg : decide ((q' : Int) < 0) = false := by rw [decide_eq_false_iff_not]; omega
        have hneg2 : ¬ (q' : Int) < 0 := by omega
        simp [-getElem?_pos, a0, a1, a3, a11, a14, hneg, hneg2, -Int.natCast_add]
        have hwl : w ∈ l := List.mem_of_getElem? hq'
        have hdec := cnt_lt (k := k) (v := v) hwl (by rw [hwid]; exact hcl2)
        refine (WL_of (c := L5c)).1 (ih (n + 1) (by omega) (by omega) q' w hq' (by omega) _ ?_ ?_ ?_ ?_ ?_ Q hQ) <;> simp [-getElem?_pos, a0, a1, a3, a11, a14, hw, -Int.natCast_add]

noncomputable def HopEnds_F := orcOf (fun p : List VW × Int × Int × Bool => [.s (.sl (rowsV p.1)), I p.2.1, I p.2.2.1, Bo p.2.2.2]) (fun _ => True) (fun _ => [Bo true])
theorem tmod_at (a n : Int) (h : 0 < n) (h8 : n ≤ 8) : ∃ q : Nat, (a.tmod n + n).tmod n = q ∧ (q : Int) < n ∧ IntKind.i64.wrap (a.tmod n + n) = a.tmod n + n := by
  have h1 := Int.tmod_lt_of_pos a h
  have h2 := Int.lt_tmod_of_pos a h
  have h3 := Int.tmod_lt_of_pos (a.tmod n + n) h
  have h4 : 0 ≤ (a.tmod n + n).tmod n := Int.tmod_nonneg _ (by omega)
  refine ⟨((a.tmod n + n).tmod n).toNat, by omega, by omega, ?_⟩
  rw [wrap64]; split <;> omega
theorem garlandlaw16_HopEnds : Pure Try.prog 5 HopEnds_F := by
  refine con TH5_ok rfl rfl fun ⟨l, k, a, s⟩ _ => ⟨rfl, ?_⟩
  by_cases h8 : 8 < l.length
  · simp [cf5, -getElem?_pos, stepK.lenA, rowsV_length, show (8 : Int) < l.length by omega]
  by_cases h0 : l.length = 0
  · simp [cf5, -getElem?_pos, stepK.lenA, rowsV_length, h0]
  obtain ⟨q, hq1, hq2, hq3⟩ := tmod_at a l.length (by omega) (by omega)
  have e8 : ¬ (8 : Int) < l.length := by omega
  have e0 : ((l.length : Int) == 0) = false := by rw [beq_eq_false_iff_ne]; omega
  have e0' : ¬ (l.length : Int) = 0 := by omega
  simp [cf5, -getElem?_pos, stepK.lenA, rowsV_length, e8, e0, e0', h8, h0]
  rw [WL_code]
  refine ends_a l k a s (by omega) l.length 0 (by omega) (by omega) (fun v hv => by simp at hv) _ ?_ ?_ ?_ ?_ ?_ _ (fun hr env' a0 a1 a2 a3 => ?_) (fun env' h' a8 => ?_)
  all_goals (try (simp [-getElem?_pos]; done))
  · simp [-getElem?_pos, a0, a1, a2, a3, stepK.lenA, rowsV_length, e0, e0', h0, hq1, hq3]
    rw [WL_code]
    obtain ⟨v, hv⟩ : ∃ v, l[q]? = some v := ⟨_, List.getElem?_eq_getElem (by omega)⟩
    refine ends_c l k s (by omega) hr l.length 0 (by omega) (by omega) q v hv (by have := cnt_len (k := k) (List.mem_of_getElem? hv); omega) _ ?_ ?_ ?_ ?_ ?_ _ (fun env' h' a8 => ?_)
    all_goals (try (simp [-getElem?_pos, a0, a1, a3]; done))
    simp [-getElem?_pos, a8]
  · simp [-getElem?_pos, a8]
noncomputable abbrev garlandlaw16_HopEnds_F := HopEnds_F
end Go.Proofs.Ytbeocehhclfbiaa.Lite
namespace Go.Proofs.Ytbeocehhclfbiaa.Lite
open Go
attribute [local simp] WL_of WL_nil WL_blk WL_skip WL_label WL_exit WL_goto WL_seq WL_block WL_cond WL_reg WL_ret WJ_nil WJ_ex WJ_gt WJ_rt WJ_exb WJ_gtb WJ_rtb WLO_nil WLO_call WO_mv WO_pick WO_new WO_box WO_ld WO_ldn WO_st WO_off WO_ixa WO_ixs WO_fld WO_fldn WO_ixv WO_ixvn WO_ixb WO_bin WO_eqb WO_isn WO_eqs WO_not WO_conv WO_mkf WO_bld WO_bls WO_sla WO_sls WO_sl0 WO_len WO_app WO_mnx WO_ext WO_nilc wants_none wants_some wantv_b wantv_t WLV_true WLV_false WLC_false WLB_true WLB_false evX_t evX_c evXs_nil evXs_cons look_put look_putN look_cons look_arg0 look_arg stepK binOpA intOp strOp evRes oneOf outs gc toDV AV.dat? I Bo av_s List.map List.append_nil getO putO AV.cellsOf bne WL_dreg WLP_nil WLP_call WP_mv WP_pick WP_new WP_box WP_ld WP_ldn WP_off WP_ixa WP_ixs WP_fld WP_fldn WP_ixv WP_ixvn WP_ixb WP_bin WP_eqb WP_isn WP_eqs WP_not WP_conv WP_mkf WP_bld WP_bls WP_sla WP_sls WP_sl0 WP_len WP_app WP_mnx WP_ext WP_nilc WLPV_true WLPV_false WLPC_false WLC_tells WLPC_tells padH onNm onEx List.getElem?_cons_zero List.getElem?_cons_succ List.getElem?_nil restrict AV.lows lay AV.isCell lowObj AObj.lows WJ_nm AV.lows.go WL_scope onGt_rt onGt_nm onGt_ex WL_sreg WP_st preSt eraseB List.set_cons_zero List.set_cons_succ

theorem closer_if (k a b : Int) : closer k a b = true ↔ left b k < left a k := by unfold closer; simp
theorem know_ok {v : VW} (h : v.right = true) {k : Int} (ho : (v.next k false).2 = false) {n : Int} (hn : n ∈ v.lst ++ v.fin) (h0 : 0 ≤ n) (hc : closer k v.id n = true) (hc2 : closer k (v.next k false).1 n = true) : place k = n := by
  obtain ⟨g1, g2, g3, g4, g5, g6, g7, g8⟩ := next_not h ho
  have hp := all_places h n hn h0
  have R := VW.r h
  have := R.id0; have := R.id1
  have g9 := g8 rfl n hn h0
  rw [closer_if] at hc hc2
  rw [left_if] at g4 g9 hc hc2
  rw [left_if v.id k] at hc
  rw [left_if (v.next k false).1 k] at hc2
  generalize (v.next k false).1 = p at *
  unfold place
  unfold far at *
  by_cases c1 : 0 < (k - v.id) % 65536 <;> by_cases c2 : 0 < (k - n) % 65536 <;> by_cases c3 : 0 < (k - p) % 65536 <;> simp only [c1, c2, c3, if_true, if_false] at g4 g9 hc hc2 <;> omega

noncomputable def TH6 : Tbl := tbl [(24, garlandref13_Right_F), (14, garlandlaw16_wakes_F), (15, hop_Next_F), (25, garlandref13_First_F), (22, hop_Closer_F), (27, garlandref03_Place_F)]
theorem TH6_ok : TblOK Try.prog TH6 := tbl_ok (by
  simp only [List.mem_cons, List.not_mem_nil, or_false]
  rintro p (rfl | rfl | rfl | rfl | rfl | rfl)
  · exact garlandref13_Right
  · exact garlandlaw16_wakes
  · exact hop_Next
  · exact garlandref13_First
  · exact hop_Closer
  · exact garlandref03_Place)
instance : Has TH6 24 garlandref13_Right_F := ⟨rfl⟩
instance : Has TH6 14 garlandlaw16_wakes_F := ⟨rfl⟩
instance : Has TH6 15 hop_Next_F := ⟨rfl⟩
instance : Has TH6 25 garlandref13_First_F := ⟨rfl⟩
instance : Has TH6 22 hop_Closer_F := ⟨rfl⟩
instance : Has TH6 27 garlandref03_Place_F := ⟨rfl⟩

def L6 : CCode := (.loop [1, 2, 5, 6, 9, 10] (.seq (.seq (.reg (⟨(some 52), .mv (.t 10), none⟩ ::
    ⟨(some 53), .mv (.t 9), none⟩ ::
    ⟨(some 54), .len false (.t 53), none⟩ ::
    ⟨(some 55), .bin .lss (.t 52) (.t 54), none⟩ ::
    ⟨(some 56), .mv (.t 55), none⟩ ::
    ⟨(some 57), .mv (.t 6), (some (56, true))⟩ ::
    ⟨(some 58), .not (.t 57), (some (56, true))⟩ ::
    ⟨(some 59), .pick (.t 56) (.t 58) (.c (.d (.bool false))), none⟩ ::
    []))
  (.cond (.t 59) .skip (.exit 0)))
  (.seq (.block 1 (.seq (.reg (⟨(some 62), .mv (.t 9), none⟩ ::
    ⟨(some 63), .mv (.t 10), none⟩ ::
    ⟨(some 64), .ixs 1 (.t 62) (.t 63), none⟩ ::
    ⟨(some 65), .ld (.t 64), none⟩ ::
    ⟨(some 11), .mv (.t 65), none⟩ ::
    []))
  (.seq (.reg (⟨(some 66), .mv (.t 11), none⟩ ::
    ⟨(some 67), .bin .geq (.t 66) (.c (.d (.int .i64 0))), none⟩ ::
    ⟨(some 68), .mv (.t 67), none⟩ ::
    ⟨(some 69), .mv (.t 11), (some (68, true))⟩ ::
    ⟨(some 70), .mv (.t 5), (some (68, true))⟩ ::
    ⟨(some 71), .bin .neq (.t 69) (.t 70), (some (68, true))⟩ ::
    ⟨(some 72), .pick (.t 68) (.t 71) (.c (.d (.bool false))), none⟩ ::
    ⟨(some 73), .mv (.t 72), none⟩ ::
    ⟨(some 74), .mv (.t 1), (some (73, true))⟩ ::
    ⟨(some 75), .off 0 (.t 2), (some (73, true))⟩ ::
    ⟨(some 76), .ld (.t 75), (some (73, true))⟩ ::
    ⟨(some 77), .mv (.t 11), (some (73, true))⟩ ::
    ⟨(some 78), .call (.c (.fn 22 [])) [(.t 74), (.t 76), (.t 77)], (some (73, true))⟩ ::
    ⟨(some 79), .pick (.t 73) (.t 78) (.c (.d (.bool false))), none⟩ ::
    ⟨(some 80), .mv (.t 79), none⟩ ::
    ⟨(some 81), .mv (.t 1), (some (80, true))⟩ ::
    ⟨(some 82), .mv (.t 5), (some (80, true))⟩ ::
    ⟨(some 83), .mv (.t 11), (some (80, true))⟩ ::
    ⟨(some 84), .call (.c (.fn 22 [])) [(.t 81), (.t 82), (.t 83)], (some (80, true))⟩ ::
    ⟨(some 85), .pick (.t 80) (.t 84) (.c (.d (.bool false))), none⟩ ::
    ⟨(some 86), .mv (.t 85), none⟩ ::
    ⟨(some 87), .mv (.t 1), (some (86, true))⟩ ::
    ⟨(some 88), .call (.c (.fn 27 [])) [(.t 87)], (some (86, true))⟩ ::
    ⟨(some 89), .mv (.t 11), (some (86, true))⟩ ::
    ⟨(some 90), .bin .neq (.t 88) (.t 89), (some (86, true))⟩ ::
    ⟨(some 91), .pick (.t 86) (.t 90) (.c (.d (.bool false))), none⟩ ::
    []))
  (.cond (.t 91) (.seq (.reg (⟨(some 4), .mv (.c (.d (.bool false))), none⟩ ::
    []))
  .ret) .skip))))
  (.reg (⟨(some 60), .mv (.t 10), none⟩ ::
    ⟨(some 61), .bin .add (.t 60) (.c (.d (.int .i64 1))), none⟩ ::
    ⟨(some 10), .mv (.t 61), none⟩ ::
    [])))))
theorem L6_eq : L6 = .loop [1, 2, 5, 6, 9, 10] (.seq (.seq (.reg (⟨(some 52), .mv (.t 10), none⟩ ::
    ⟨(some 53), .mv (.t 9), none⟩ ::
    ⟨(some 54), .len false (.t 53), none⟩ ::
    ⟨(some 55), .bin .lss (.t 52) (.t 54), none⟩ ::
    ⟨(some 56), .mv (.t 55), none⟩ ::
    ⟨(some 57), .mv (.t 6), (some (56, true))⟩ ::
    ⟨(some 58), .not (.t 57), (some (56, true))⟩ ::
    ⟨(some 59), .pick (.t 56) (.t 58) (.c (.d (.bool false))), none⟩ ::
    []))
  (.cond (.t 59) .skip (.exit 0)))
  (.seq (.block 1 (.seq (.reg (⟨(some 62), .mv (.t 9), none⟩ ::
    ⟨(some 63), .mv (.t 10), none⟩ ::
    ⟨(some 64), .ixs 1 (.t 62) (.t 63), none⟩ ::
    ⟨(some 65), .ld (.t 64), none⟩ ::
    ⟨(some 11), .mv (.t 65), none⟩ ::
    []))
  (.seq (.reg (⟨(some 66), .mv (.t 11), none⟩ ::
    ⟨(some 67), .bin .geq (.t 66) (.c (.d (.int .i64 0))), none⟩ ::
    ⟨(some 68), .mv (.t 67), none⟩ ::
    ⟨(some 69), .mv (.t 11), (some (68, true))⟩ ::
    ⟨(some 70), .mv (.t 5), (some (68, true))⟩ ::
    ⟨(some 71), .bin .neq (.t 69) (.t 70), (some (68, true))⟩ ::
    ⟨(some 72), .pick (.t 68) (.t 71) (.c (.d (.bool false))), none⟩ ::
    ⟨(some 73), .mv (.t 72), none⟩ ::
    ⟨(some 74), .mv (.t 1), (some (73, true))⟩ ::
    ⟨(some 75), .off 0 (.t 2), (some (73, true))⟩ ::
    ⟨(some 76), .ld (.t 75), (some (73, true))⟩ ::
    ⟨(some 77), .mv (.t 11), (some (73, true))⟩ ::
    ⟨(some 78), .call (.c (.fn 22 [])) [(.t 74), (.t 76), (.t 77)], (some (73, true))⟩ ::
    ⟨(some 79), .pick (.t 73) (.t 78) (.c (.d (.bool false))), none⟩ ::
    ⟨(some 80), .mv (.t 79), none⟩ ::
    ⟨(some 81), .mv (.t 1), (some (80, true))⟩ ::
    ⟨(some 82), .mv (.t 5), (some (80, true))⟩ ::
    ⟨(some 83), .mv (.t 11), (some (80, true))⟩ ::
    ⟨(some 84), .call (.c (.fn 22 [])) [(.t 81), (.t 82), (.t 83)], (some (80, true))⟩ ::
    ⟨(some 85), .pick (.t 80) (.t 84) (.c (.d (.bool false))), none⟩ ::
    ⟨(some 86), .mv (.t 85), none⟩ ::
    ⟨(some 87), .mv (.t 1), (some (86, true))⟩ ::
    ⟨(some 88), .call (.c (.fn 27 [])) [(.t 87)], (some (86, true))⟩ ::
    ⟨(some 89), .mv (.t 11), (some (86, true))⟩ ::
    ⟨(some 90), .bin .neq (.t 88) (.t 89), (some (86, true))⟩ ::
    ⟨(some 91), .pick (.t 86) (.t 90) (.c (.d (.bool false))), none⟩ ::
    []))
  (.cond (.t 91) (.seq (.reg (⟨(some 4), .mv (.c (.d (.bool false))), none⟩ ::
    []))
  .ret) .skip))))
  (.reg (⟨(some 60), .mv (.t 10), none⟩ ::
    ⟨(some 61), .bin .add (.t 60) (.c (.d (.int .i64 1))), none⟩ ::
    ⟨(some 10), .mv (.t 61), none⟩ ::
    [])))) := rfl
theorem knows_loop (v : VW) (k p : Int) (l : List Int) (hl : l.length < 100) (hno : ∀ n ∈ l, 0 ≤ n → closer k v.id n = true → closer k p n = true → place k = n) : ∀ (m i : Nat), l.length - i = m → i ≤ l.length → ∀ (env : Env),
    look env 1 = some (.d (.int .i64 k)) → look env 2 = some (.ptr 0 0) → look env 5 = some (.d (.int .i64 p)) → look env 6 = some (.d (.bool false)) → look env 9 = some (.ws (rowsI l) 1) → look env 10 = some (.d (.int .i64 i)) →
    ∀ (Q : Ex → Env → St → Prop), (∀ env', Q (.ex 0) env' ⟨hp16 v, []⟩) → W TH6 ⟨[], 0⟩ L6 env ⟨hp16 v, []⟩ Q := by
  intro m
  induction m with
  | zero =>
    intro i hm hi env h1 h2 h5 h6 h9 h10 Q hQ
    have hlt : ¬ i < l.length := by omega
    rw [L6_eq, W_loop]
    simp [-getElem?_pos, hp16, h1, h2, h5, h6, h9, h10, stepK.lenA, rowsI_length, hlt]
    exact hQ _
  | succ m ih =>
    intro i hm hi env h1 h2 h5 h6 h9 h10 Q hQ
    have hlt : i < l.length := by omega
    obtain ⟨n, hn⟩ : ∃ n, l[i]? = some n := ⟨_, List.getElem?_eq_getElem hlt⟩
    have hw := wrapN1 i (by omega)
    have hno' := hno n (List.mem_of_getElem? hn)
    rw [L6_eq, W_loop]
    simp [-getElem?_pos, hp16, h1, h2, h5, h6, h9, h10, stepK.lenA, rowsI_length, hlt, rowsI_get, hn, cs_0, -Int.natCast_add]
    all_goals (try (first | refine WLV_splitN (fun hs => ?_) (fun hs => ?_) | refine WLC_splitN (fun hs => ?_) (fun hs => ?_) | refine WLB_splitN (fun hs => ?_) (fun hs => ?_) | refine WLPV_splitN (fun hs => ?_) (fun hs => ?_) | refine WLPC_splitN (fun hs => ?_) (fun hs => ?_) | refine WLPV_split (fun hs => ?_) (fun hs => ?_) | refine WLPC_split (fun hs => ?_) (fun hs => ?_) | refine WLV_split (fun hs => ?_) (fun hs => ?_) | refine WLC_split (fun hs => ?_) (fun hs => ?_) | refine WLB_split (fun hs => ?_) (fun hs => ?_)))
    all_goals (try (have hs' := hs; simp at hs'))
    all_goals (try simp [*, -getElem?_pos, h1, h2, h5, h6, h9, h10, rowsI_get, hn, cs_0, cs_all, cs_lows, -Int.natCast_add])
    all_goals (try (first | refine WLV_splitN (fun hs => ?_) (fun hs => ?_) | refine WLC_splitN (fun hs => ?_) (fun hs => ?_) | refine WLB_splitN (fun hs => ?_) (fun hs => ?_) | refine WLPV_splitN (fun hs => ?_) (fun hs => ?_) | refine WLPC_splitN (fun hs => ?_) (fun hs => ?_) | refine WLPV_split (fun hs => ?_) (fun hs => ?_) | refine WLPC_split (fun hs => ?_) (fun hs => ?_) | refine WLV_split (fun hs => ?_) (fun hs => ?_) | refine WLC_split (fun hs => ?_) (fun hs => ?_) | refine WLB_split (fun hs => ?_) (fun hs => ?_)))
    all_goals (try (have hs' := hs; simp at hs'))
    all_goals (try simp [*, -getElem?_pos, h1, h2, h5, h6, h9, h10, rowsI_get, hn, cs_0, cs_all, cs_lows, -Int.natCast_add])
    all_goals (try (first | refine WLV_splitN (fun hs => ?_) (fun hs => ?_) | refine WLC_splitN (fun hs => ?_) (fun hs => ?_) | refine WLB_splitN (fun hs => ?_) (fun hs => ?_) | refine WLPV_splitN (fun hs => ?_) (fun hs => ?_) | refine WLPC_splitN (fun hs => ?_) (fun hs => ?_) | refine WLPV_split (fun hs => ?_) (fun hs => ?_) | refine WLPC_split (fun hs => ?_) (fun hs => ?_) | refine WLV_split (fun hs => ?_) (fun hs => ?_) | refine WLC_split (fun hs => ?_) (fun hs => ?_) | refine WLB_split (fun hs => ?_) (fun hs => ?_)))
    all_goals (try (have hs' := hs; simp at hs'))
    all_goals (try simp [*, -getElem?_pos, h1, h2, h5, h6, h9, h10, rowsI_get, hn, cs_0, cs_all, cs_lows, -Int.natCast_add])
    all_goals (try (first | refine WLV_splitN (fun hs => ?_) (fun hs => ?_) | refine WLC_splitN (fun hs => ?_) (fun hs => ?_) | refine WLB_splitN (fun hs => ?_) (fun hs => ?_) | refine WLPV_splitN (fun hs => ?_) (fun hs => ?_) | refine WLPC_splitN (fun hs => ?_) (fun hs => ?_) | refine WLPV_split (fun hs => ?_) (fun hs => ?_) | refine WLPC_split (fun hs => ?_) (fun hs => ?_) | refine WLV_split (fun hs => ?_) (fun hs => ?_) | refine WLC_split (fun hs => ?_) (fun hs => ?_) | refine WLB_split (fun hs => ?_) (fun hs => ?_)))
    all_goals (try (have hs' := hs; simp at hs'))
    all_goals (try simp [*, -getElem?_pos, h1, h2, h5, h6, h9, h10, rowsI_get, hn, cs_0, cs_all, cs_lows, -Int.natCast_add])
    all_goals (try (first | refine WLV_splitN (fun hs => ?_) (fun hs => ?_) | refine WLC_splitN (fun hs => ?_) (fun hs => ?_) | refine WLB_splitN (fun hs => ?_) (fun hs => ?_) | refine WLPV_splitN (fun hs => ?_) (fun hs => ?_) | refine WLPC_splitN (fun hs => ?_) (fun hs => ?_) | refine WLPV_split (fun hs => ?_) (fun hs => ?_) | refine WLPC_split (fun hs => ?_) (fun hs => ?_) | refine WLV_split (fun hs => ?_) (fun hs => ?_) | refine WLC_split (fun hs => ?_) (fun hs => ?_) | refine WLB_split (fun hs => ?_) (fun hs => ?_)))
    all_goals (try (have hs' := hs; simp at hs'))
    all_goals (try simp [*, -getElem?_pos, h1, h2, h5, h6, h9, h10, rowsI_get, hn, cs_0, cs_all, cs_lows, -Int.natCast_add])
    all_goals (refine (WL_of (c := L6)).1 (ih (i + 1) (by omega) (by omega) _ ?_ ?_ ?_ ?_ ?_ ?_ Q hQ) <;> simp [*, -getElem?_pos, h1, h2, h5, h6, h9, h10, hw, -Int.natCast_add])
theorem knows_own (v : VW) (k p : Int) (l : List Int) (env : Env) (h6 : look env 6 = some (.d (.bool true))) (h9 : look env 9 = some (.ws (rowsI l) 1)) (h10 : look env 10 = some (.d (.int .i64 0)))
    (Q : Ex → Env → St → Prop) (hQ : ∀ env', Q (.ex 0) env' ⟨hp16 v, []⟩) : W TH6 ⟨[], 0⟩ L6 env ⟨hp16 v, []⟩ Q := by
  rw [L6_eq, W_loop]
  by_cases hl : 0 < l.length <;> simp [-getElem?_pos, hp16, h6, h9, h10, stepK.lenA, rowsI_length, hl] <;> exact hQ _
noncomputable def HopKnows_F := orcOf (fun p : VW × Int => [V p.1, I p.2]) (fun _ => True) (fun _ => [Bo true])
theorem garlandlaw16_HopKnows : Pure Try.prog 6 HopKnows_F := by
  refine con TH6_ok rfl rfl fun ⟨v, k⟩ _ => ⟨rfl, ?_⟩
  have hll := v.hl
  cases hvr : v.right with
  | false => simp [cf6, V_av, -getElem?_pos, cs_length, cs_take, hvr]
  | true =>
    have hr : rows? [some (.cells v.cs)] 1 (.slr 0 4 16 1) = some (rowsI v.fin) := by
      simp [rows?, getO, cs_length, cs_fin, dats_ints, chunk_ints v.fin 16 v.hf.symm]
    have h3 := right_len hvr
    have e1 : v.lst.length ≤ LIM := by unfold LIM; omega
    have e2 : v.lst.length + 16 ≤ LIM := by unfold LIM; omega
    have hr2 : rows? [some (.cells v.cs)] 1 (vsI v.lst) = some (rowsI v.lst) := by simp [rows?, rowsI_ok]
    have hq1 : (v.next k true).1 = v.first := by rw [next_eq hvr]; cases upToB v.id k v.first <;> rfl
    have hq2 : (v.next k true).2 = upToB v.id k v.first := by rw [next_eq hvr]; cases upToB v.id k v.first <;> rfl
    have hp2 : (v.next k false).2 = upToB v.id k v.first := by rw [next_eq hvr]; cases upToB v.id k v.first <;> rfl
    cases hu : upToB v.id k v.first with
    | true =>
      have hp1 : (v.next k false).1 = v.first := by rw [next_eq hvr, hu]; rfl
      simp [cf6, V_av, -getElem?_pos, cs_length, cs_take, hvr, cs_0, cs_2, hq1, hq2, hp1, hp2, hu]
      simp [-getElem?_pos, fillA, dats?, chunk, cs_2, bound?, hr, hr2, stepK.getTok, rowsI_length, rowsI_ok, e1, e2, rowsOk_nil, rowsI_append, v.hf]
      rw [WL_code]
      refine knows_own v k v.first (v.lst ++ v.fin) _ ?_ ?_ ?_ _ (fun env' => ?_)
      all_goals (try (simp [-getElem?_pos]; done))
    | false =>
      simp [cf6, V_av, -getElem?_pos, cs_length, cs_take, hvr, cs_0, cs_2, hq1, hq2, hp2, hu]
      simp [-getElem?_pos, fillA, dats?, chunk, cs_2, bound?, hr, hr2, stepK.getTok, rowsI_length, rowsI_ok, e1, e2, rowsOk_nil, rowsI_append, v.hf]
      rw [WL_code]
      refine knows_loop v k (v.next k false).1 (v.lst ++ v.fin) (by rw [List.length_append, v.hf]; omega) (fun n hn h0 hc hc2 => know_ok hvr (hp2.trans hu) hn h0 hc hc2) (v.lst ++ v.fin).length 0 (by omega) (by omega) _ ?_ ?_ ?_ ?_ ?_ ?_ _ (fun env' => ?_)
      all_goals (try (simp [-getElem?_pos]; done))
noncomputable abbrev garlandlaw16_HopKnows_F := HopKnows_F
end Go.Proofs.Ytbeocehhclfbiaa.Lite
namespace Go.Proofs.Ytbeocehhclfbiaa.Lite
open Go
attribute [local simp] WL_of WL_nil WL_blk WL_skip WL_label WL_exit WL_goto WL_seq WL_block WL_cond WL_reg WL_ret WJ_nil WJ_ex WJ_gt WJ_rt WJ_exb WJ_gtb WJ_rtb WLO_nil WLO_call WO_mv WO_pick WO_new WO_box WO_ld WO_ldn WO_st WO_off WO_ixa WO_ixs WO_fld WO_fldn WO_ixv WO_ixvn WO_ixb WO_bin WO_eqb WO_isn WO_eqs WO_not WO_conv WO_mkf WO_bld WO_bls WO_sla WO_sls WO_sl0 WO_len WO_app WO_mnx WO_ext WO_nilc wants_none wants_some wantv_b wantv_t WLV_true WLV_false WLC_false WLB_true WLB_false evX_t evX_c evXs_nil evXs_cons look_put look_putN look_cons look_arg0 look_arg stepK binOpA intOp strOp evRes oneOf outs gc toDV AV.dat? I Bo av_s List.map List.append_nil getO putO AV.cellsOf bne WL_dreg WLP_nil WLP_call WP_mv WP_pick WP_new WP_box WP_ld WP_ldn WP_off WP_ixa WP_ixs WP_fld WP_fldn WP_ixv WP_ixvn WP_ixb WP_bin WP_eqb WP_isn WP_eqs WP_not WP_conv WP_mkf WP_bld WP_bls WP_sla WP_sls WP_sl0 WP_len WP_app WP_mnx WP_ext WP_nilc WLPV_true WLPV_false WLPC_false WLC_tells WLPC_tells padH onNm onEx List.getElem?_cons_zero List.getElem?_cons_succ List.getElem?_nil restrict AV.lows lay AV.isCell lowObj AObj.lows WJ_nm AV.lows.go WL_scope onGt_rt onGt_nm onGt_ex WL_sreg WP_st preSt eraseB List.set_cons_zero List.set_cons_succ

theorem same_refl (m : MW) : m.same m = true := by simp [MW.same]
theorem mcs_drop10 (m : MW) : m.cs[10]? = some (.d (.str m.ikey)) := rfl
noncomputable def TH4 : Tbl := tbl [(13, garlandref13_Great_F), (14, garlandlaw16_wakes_F), (15, hop_Next_F), (16, garlandref16_Next_F), (17, hop_Left_F), (18, garlandref16_Left_F), (20, hop_Answer_F), (21, garlandref16_Answer_F), (19, garlandref06_Same_F), (22, hop_Closer_F), (23, garlandref16_Closer_F)]
theorem TH4_ok : TblOK Try.prog TH4 := tbl_ok (by
  simp only [List.mem_cons, List.not_mem_nil, or_false]
  rintro p (rfl | rfl | rfl | rfl | rfl | rfl | rfl | rfl | rfl | rfl | rfl)
  · exact garlandref13_Great
  · exact garlandlaw16_wakes
  · exact hop_Next
  · exact garlandref16_Next
  · exact hop_Left
  · exact garlandref16_Left
  · exact hop_Answer
  · exact garlandref16_Answer
  · exact garlandref06_Same
  · exact hop_Closer
  · exact garlandref16_Closer)
instance : Has TH4 13 garlandref13_Great_F := ⟨rfl⟩
instance : Has TH4 14 garlandlaw16_wakes_F := ⟨rfl⟩
instance : Has TH4 15 hop_Next_F := ⟨rfl⟩
instance : Has TH4 16 garlandref16_Next_F := ⟨rfl⟩
instance : Has TH4 17 hop_Left_F := ⟨rfl⟩
instance : Has TH4 18 garlandref16_Left_F := ⟨rfl⟩
instance : Has TH4 20 hop_Answer_F := ⟨rfl⟩
instance : Has TH4 21 garlandref16_Answer_F := ⟨rfl⟩
instance : Has TH4 19 garlandref06_Same_F := ⟨rfl⟩
instance : Has TH4 22 hop_Closer_F := ⟨rfl⟩
instance : Has TH4 23 garlandref16_Closer_F := ⟨rfl⟩

noncomputable def HopTells_F := orcOf (fun p : VW × MW × Int × Bool × Int × Int => [V p.1, Mg p.2.1, I p.2.2.1, Bo p.2.2.2.1, I p.2.2.2.2.1, I p.2.2.2.2.2]) (fun p => p.2.1.call < 9223372036854775808) (fun _ => [Bo true])
theorem garlandlaw16_HopTells : Pure Try.prog 3 HopTells_F := by
  refine con TH4_ok rfl rfl fun ⟨v, m, k, s, a, b⟩ hm => ⟨rfl, ?_⟩
  have hm : m.call < 9223372036854775808 := hm
  haveI : Fact (m.call < 9223372036854775808) := ⟨hm⟩
  simp [cf3, Mg_av, V_av, -getElem?_pos, cs_0, cs_length, cs_take, cs_all, cs_lows, mcs_9, mcs_drop10, mcs_len, mcs_take, mcs_all, mcs_lows, stepK.lenA, rowsI_length]
  all_goals (try (first | refine WLV_splitN (fun hs => ?_) (fun hs => ?_) | refine WLC_splitN (fun hs => ?_) (fun hs => ?_) | refine WLB_splitN (fun hs => ?_) (fun hs => ?_) | refine WLPV_splitN (fun hs => ?_) (fun hs => ?_) | refine WLPC_splitN (fun hs => ?_) (fun hs => ?_) | refine WLPV_split (fun hs => ?_) (fun hs => ?_) | refine WLPC_split (fun hs => ?_) (fun hs => ?_) | refine WLV_split (fun hs => ?_) (fun hs => ?_) | refine WLC_split (fun hs => ?_) (fun hs => ?_) | refine WLB_split (fun hs => ?_) (fun hs => ?_)))
  all_goals (try (have hs' := hs; simp at hs'))
  all_goals (try simp [*, -getElem?_pos, cs_0, cs_length, cs_take, cs_all, cs_lows, mcs_9, mcs_drop10, mcs_len, mcs_take, mcs_all, mcs_lows, stepK.lenA, rowsI_length, same_refl])
  all_goals (try (first | refine WLV_splitN (fun hs => ?_) (fun hs => ?_) | refine WLC_splitN (fun hs => ?_) (fun hs => ?_) | refine WLB_splitN (fun hs => ?_) (fun hs => ?_) | refine WLPV_splitN (fun hs => ?_) (fun hs => ?_) | refine WLPC_splitN (fun hs => ?_) (fun hs => ?_) | refine WLPV_split (fun hs => ?_) (fun hs => ?_) | refine WLPC_split (fun hs => ?_) (fun hs => ?_) | refine WLV_split (fun hs => ?_) (fun hs => ?_) | refine WLC_split (fun hs => ?_) (fun hs => ?_) | refine WLB_split (fun hs => ?_) (fun hs => ?_)))
  all_goals (try (have hs' := hs; simp at hs'))
  all_goals (try simp [*, -getElem?_pos, cs_0, cs_length, cs_take, cs_all, cs_lows, mcs_9, mcs_drop10, mcs_len, mcs_take, mcs_all, mcs_lows, stepK.lenA, rowsI_length, same_refl])
  all_goals (try (first | refine WLV_splitN (fun hs => ?_) (fun hs => ?_) | refine WLC_splitN (fun hs => ?_) (fun hs => ?_) | refine WLB_splitN (fun hs => ?_) (fun hs => ?_) | refine WLPV_splitN (fun hs => ?_) (fun hs => ?_) | refine WLPC_splitN (fun hs => ?_) (fun hs => ?_) | refine WLPV_split (fun hs => ?_) (fun hs => ?_) | refine WLPC_split (fun hs => ?_) (fun hs => ?_) | refine WLV_split (fun hs => ?_) (fun hs => ?_) | refine WLC_split (fun hs => ?_) (fun hs => ?_) | refine WLB_split (fun hs => ?_) (fun hs => ?_)))
  all_goals (try (have hs' := hs; simp at hs'))
  all_goals (try simp [*, -getElem?_pos, cs_0, cs_length, cs_take, cs_all, cs_lows, mcs_9, mcs_drop10, mcs_len, mcs_take, mcs_all, mcs_lows, stepK.lenA, rowsI_length, same_refl])
noncomputable abbrev garlandlaw16_HopTells_F := HopTells_F
end Go.Proofs.Ytbeocehhclfbiaa.Lite
namespace Go.Proofs.Ytbeocehhclfbiaa.Lite
open Go
attribute [local simp] WL_of WL_nil WL_blk WL_skip WL_label WL_exit WL_goto WL_seq WL_block WL_cond WL_reg WL_ret WJ_nil WJ_ex WJ_gt WJ_rt WJ_exb WJ_gtb WJ_rtb WLO_nil WLO_call WO_mv WO_pick WO_new WO_box WO_ld WO_ldn WO_st WO_off WO_ixa WO_ixs WO_fld WO_fldn WO_ixv WO_ixvn WO_ixb WO_bin WO_eqb WO_isn WO_eqs WO_not WO_conv WO_mkf WO_bld WO_bls WO_sla WO_sls WO_sl0 WO_len WO_app WO_mnx WO_ext WO_nilc wants_none wants_some wantv_b wantv_t WLV_true WLV_false WLC_false WLB_true WLB_false evX_t evX_c evXs_nil evXs_cons look_put look_putN look_cons look_arg0 look_arg stepK binOpA intOp strOp evRes oneOf outs gc toDV AV.dat? I Bo av_s List.map List.append_nil getO putO AV.cellsOf bne WL_dreg WLP_nil WLP_call WP_mv WP_pick WP_new WP_box WP_ld WP_ldn WP_off WP_ixa WP_ixs WP_fld WP_fldn WP_ixv WP_ixvn WP_ixb WP_bin WP_eqb WP_isn WP_eqs WP_not WP_conv WP_mkf WP_bld WP_bls WP_sla WP_sls WP_sl0 WP_len WP_app WP_mnx WP_ext WP_nilc WLPV_true WLPV_false WLPC_false WLC_tells WLPC_tells padH onNm onEx List.getElem?_cons_zero List.getElem?_cons_succ List.getElem?_nil restrict AV.lows lay AV.isCell lowObj AObj.lows WJ_nm AV.lows.go WL_scope onGt_rt onGt_nm onGt_ex WL_sreg WP_st preSt eraseB List.set_cons_zero List.set_cons_succ

set_option maxRecDepth 100000 in
theorem wakes18 : isTrue (evCall (tbl []) 300 ⟨[], 0⟩ (.fn 30 []) [] ⟨[], []⟩) = true := by kernel_rfl
theorem garlandlaw18_wakes : Pure Try.prog 30 true_F :=
  pure_of (T := tbl []) (tbl_ok (by simp)) rfl rfl fun dvs rs hF => by
    obtain ⟨x, hx, rfl, rfl⟩ := orcOf_inv hF
    exact WC_true wakes18
noncomputable abbrev garlandlaw18_wakes_F := true_F

def great18 (v : VW) (m : MW) : Bool := v.great || decide (20 < m.lst.length) || decide (100 < m.ikey.length)
noncomputable def great18_F := orcOf (fun q : VW × MW => [V q.1, Mg q.2]) (fun _ => True) (fun q => [Bo (great18 q.1 q.2)])
instance (v : VW) (xs : List AV) (m : MW) [h : AsM xs m] : Tells great18_F [.agg v.cs, .agg xs] (.d (.bool (great18 v m))) :=
  ⟨[V v, Mg m], [Bo (great18 v m)], fun hp => by simp only [toDVs, toV, asM_to h], orcOf_eq (enc := fun q : VW × MW => [V q.1, Mg q.2]) (x := (v, m)) trivial (fun y h => by
    simp only [V, Mg, List.cons.injEq, DV.g.injEq, and_true] at h
    exact Prod.ext (VW.inj h.1) (MW.inj h.2)), rfl, by simp [h.t, cs_tied], fun N M => by simp [AV.lows, h.l, cs_lows]⟩
noncomputable def TGR : Tbl := tbl [(13, garlandref13_Great_F)]
theorem TGR_ok : TblOK Try.prog TGR := tbl_ok (by
  simp only [List.mem_cons, List.not_mem_nil, or_false]
  rintro p (rfl)
  · exact garlandref13_Great)
instance : Has TGR 13 garlandref13_Great_F := ⟨rfl⟩

theorem garlandlaw18_great : Pure Try.prog 29 great18_F := by
  refine con TGR_ok rfl rfl fun ⟨v, m⟩ _ => ⟨rfl, ?_⟩
  cases hv : v.great <;> by_cases h1 : 20 < m.lst.length <;> by_cases h2 : 100 < m.ikey.length
  all_goals
    simp [cf29, V_av, Mg_av, -getElem?_pos, cs_length, cs_take, cs_all, cs_lows, mcs_9, mcs_drop10, mcs_len, mcs_take, mcs_all, mcs_lows, stepK.lenA, rowsI_length, great18, hv, h1, h2, show ((20 : Int) < m.lst.length) = (20 < m.lst.length) from by rw [eq_iff_iff]; omega, show ((100 : Int) < m.ikey.length) = (100 < m.ikey.length) from by rw [eq_iff_iff]; omega]
noncomputable abbrev garlandlaw18_great_F := great18_F

def LW.eqb (l k : LW) : Bool := l.key == k.key && l.loc == k.loc && l.hops == k.hops && l.slow == k.slow && l.found == k.found && l.code == k.code
theorem eq_look' (a b c : Int) (d e : Bool) (f : Int) (a' b' c' : Int) (d' e' : Bool) (f' : Int) : eqCells [0, 0, 0, 1, 1, 0] [.d (.int .i64 a), .d (.int .i64 b), .d (.int .i64 c), .d (.bool d), .d (.bool e), .d (.int .i64 f)] [.d (.int .i64 a'), .d (.int .i64 b'), .d (.int .i64 c'), .d (.bool d'), .d (.bool e'), .d (.int .i64 f')] = some (LW.eqb ⟨a, b, c, d, e, f⟩ ⟨a', b', c', d', e', f'⟩) := by
  unfold LW.eqb
  cases h1 : a == a' <;> cases h2 : b == b' <;> cases h3 : c == c' <;> cases h4 : d == d' <;> cases h5 : e == e' <;> cases h6 : f == f' <;> simp only [eqCells, eqCell, h1, h2, h3, h4, h5, h6, if_true] <;> rfl
theorem eq_look (l k : LW) : eqCells [0, 0, 0, 1, 1, 0] l.cs k.cs = some (l.eqb k) := eq_look' _ _ _ _ _ _ _ _ _ _ _ _
theorem eqb_refl (l : LW) : l.eqb l = true := by simp [LW.eqb]
theorem eqb_iff {l k : LW} : l.eqb k = true ↔ l = k := by
  obtain ⟨⟩ := l; obtain ⟨⟩ := k
  simp [LW.eqb, and_assoc]

noncomputable def TH8 : Tbl := tbl [(29, garlandlaw18_great_F), (30, garlandlaw18_wakes_F), (31, look_Ask_F), (32, garlandref18_Ask_F), (33, look_Begin_F), (34, garlandref18_Begin_F), (35, look_Told_F), (36, garlandref18_Told_F), (37, look_Again_F), (38, garlandref18_Again_F), (39, look_Right_F), (40, garlandref18_Right_F), (41, look_Over_F), (42, garlandref18_Over_F), (19, garlandref06_Same_F)]
theorem TH8_ok : TblOK Try.prog TH8 := tbl_ok (by
  simp only [List.mem_cons, List.not_mem_nil, or_false]
  rintro p (rfl | rfl | rfl | rfl | rfl | rfl | rfl | rfl | rfl | rfl | rfl | rfl | rfl | rfl | rfl)
  · exact garlandlaw18_great
  · exact garlandlaw18_wakes
  · exact look_Ask
  · exact garlandref18_Ask
  · exact look_Begin
  · exact garlandref18_Begin
  · exact look_Told
  · exact garlandref18_Told
  · exact look_Again
  · exact garlandref18_Again
  · exact look_Right
  · exact garlandref18_Right
  · exact look_Over
  · exact garlandref18_Over
  · exact garlandref06_Same)
instance : Has TH8 29 garlandlaw18_great_F := ⟨rfl⟩
instance : Has TH8 30 garlandlaw18_wakes_F := ⟨rfl⟩
instance : Has TH8 31 look_Ask_F := ⟨rfl⟩
instance : Has TH8 32 garlandref18_Ask_F := ⟨rfl⟩
instance : Has TH8 33 look_Begin_F := ⟨rfl⟩
instance : Has TH8 34 garlandref18_Begin_F := ⟨rfl⟩
instance : Has TH8 35 look_Told_F := ⟨rfl⟩
instance : Has TH8 36 garlandref18_Told_F := ⟨rfl⟩
instance : Has TH8 37 look_Again_F := ⟨rfl⟩
instance : Has TH8 38 garlandref18_Again_F := ⟨rfl⟩
instance : Has TH8 39 look_Right_F := ⟨rfl⟩
instance : Has TH8 40 garlandref18_Right_F := ⟨rfl⟩
instance : Has TH8 41 look_Over_F := ⟨rfl⟩
instance : Has TH8 42 garlandref18_Over_F := ⟨rfl⟩
instance : Has TH8 19 garlandref06_Same_F := ⟨rfl⟩

noncomputable def LookTells_F := orcOf (fun q : VW × LW × MW × Int => [V q.1, Lk q.2.1, Mg q.2.2.1, I q.2.2.2]) (fun q => q.2.2.1.call < 9223372036854775808) (fun _ => [Bo true])
theorem garlandlaw18_LookTells : Pure Try.prog 8 LookTells_F := by
  refine con TH8_ok rfl rfl fun ⟨v, l, m, k⟩ hm => ⟨rfl, ?_⟩
  have hm : m.call < 9223372036854775808 := hm
  haveI : Fact (m.call < 9223372036854775808) := ⟨hm⟩
  simp [cf8, Mg_av, V_av, Lk_av, -getElem?_pos, cs_0, cs_length, cs_take, cs_all, cs_lows, mcs_9, mcs_drop10, mcs_len, mcs_take, mcs_all, mcs_lows, mcsC, lcs_len, lcs_take, lcs_cell, eq_look, eqb_refl, same_refl]
  all_goals (try (first | refine WLV_splitN (fun hs => ?_) (fun hs => ?_) | refine WLC_splitN (fun hs => ?_) (fun hs => ?_) | refine WLB_splitN (fun hs => ?_) (fun hs => ?_) | refine WLPV_splitN (fun hs => ?_) (fun hs => ?_) | refine WLPC_splitN (fun hs => ?_) (fun hs => ?_) | refine WLPV_split (fun hs => ?_) (fun hs => ?_) | refine WLPC_split (fun hs => ?_) (fun hs => ?_) | refine WLV_split (fun hs => ?_) (fun hs => ?_) | refine WLC_split (fun hs => ?_) (fun hs => ?_) | refine WLB_split (fun hs => ?_) (fun hs => ?_)))
  all_goals (try (have hs' := hs; simp at hs'))
  all_goals (try simp [*, -getElem?_pos, cs_0, cs_length, cs_take, cs_all, cs_lows, mcs_9, mcs_drop10, mcs_len, mcs_take, mcs_all, mcs_lows, mcsC, lcs_len, lcs_take, lcs_cell, eq_look, eqb_refl, same_refl])
noncomputable abbrev garlandlaw18_LookTells_F := LookTells_F
end Go.Proofs.Ytbeocehhclfbiaa.Lite
namespace Go.Proofs.Ytbeocehhclfbiaa.Lite
open Go

structure EI (v : VW) (key : Int) (x : LW) (n : Int) : Prop where
  r : x.right = true
  k : x.key = place key
  h : x.hops = n
  ne : x.over = false → x.loc ≠ v.id
theorem EI.n0 {v : VW} {key : Int} {x : LW} {n : Int} (e : EI v key x n) : 0 ≤ n ∧ n ≤ 41 := by
  have R := LW.r.1 e.r
  have := R.h0; have := R.h1; have := e.h
  omega
theorem on_ne {v : VW} (hv : v.right = true) (l : LW) (p : Int) (o : Bool) (h : (l.on v p o).over = false) : (l.on v p o).loc ≠ v.id := by
  unfold LW.on at h ⊢
  cases hc : p == v.id && !o with
  | true => simp only [cond_true]; exact (next_place hv l.key l.slow).2.2
  | false =>
    rw [hc] at h
    simp only [cond_false] at h ⊢
    have hf := (over_parts h).1
    simp only at hf
    subst hf
    simpa using hc
theorem ei_begin {v : VW} (hv : v.right = true) (key : Int) : EI v key (begin18 v key) 0 := by
  have hr := begin_right hv key
  rw [begin_yes hv] at hr ⊢
  exact ⟨hr, rfl, rfl, fun _ => (next_place hv key false).2.2⟩
theorem bad_over (l : LW) : l.bad.over = true := by simp [LW.over, LW.bad]
theorem ei_again {v : VW} (hv : v.right = true) {key : Int} {x : LW} {n : Int} (e : EI v key x n) (ho : x.over = false) : EI v key (again18 v x) (n + 1) := by
  obtain ⟨y1, y2, y3, -, -, -, -⟩ := again_yes hv e.r ho
  refine ⟨y3, y2.trans e.k, by rw [y1, e.h], fun h => ?_⟩
  unfold again18 at h ⊢
  rw [hv, e.r, ho] at h ⊢
  simp only [Bool.not_false, Bool.and_self, cond_true] at h ⊢
  cases hc : decide (40 < x.hops + 1) with
  | true => rw [hc, cond_true, bad_over] at h; cases h
  | false => rw [hc, cond_false] at h; rw [cond_false]; exact on_ne hv _ _ _ h
structure ToldI (v : VW) (key : Int) (p n : Int) (y : LW) : Prop where
  e : EI v key y (n + 1)
  c : y.code = bif decide (40 < n + 1) then 211 else 0
  f : (y.found && !(y.loc == p) && !(p == v.id)) = false
theorem ei_told {v : VW} (hv : v.right = true) {key : Int} {x : LW} {n : Int} (e : EI v key x n) (ho : x.over = false) {p : Int} (hp : isPlace p = true) (d : Bool) : ToldI v key p n (told18 v x (tellM x.loc v.id p d)) := by
  have hc := counts_tell hv e.r ho (e.ne ho) hp d
  obtain ⟨y1, y2, y3, y4, y5⟩ := told_yes hc
  have hh := e.h
  refine ⟨⟨y4, y2.trans e.k, by rw [y1, e.h], fun h => ?_⟩, by rw [y5, e.h], ?_⟩
  · unfold told18 at h ⊢
    rw [hc, cond_true] at h ⊢
    cases h40 : decide (40 < x.hops + 1) with
    | true => rw [h40, cond_true, bad_over] at h; cases h
    | false => rw [h40, cond_false] at h; rw [cond_false]; exact on_ne hv _ _ _ h
  · unfold told18
    rw [hc, cond_true]
    cases h40 : decide (40 < x.hops + 1) with
    | true => rw [cond_true]; simp [LW.bad, (over_parts ho).1]
    | false =>
      rw [cond_false]
      have h2 : ((x.inc.on v p d).found && !((x.inc.on v p d).loc == p) && !(p == v.id)) = false := by
        unfold LW.on
        cases hc : p == v.id && !d with
        | true =>
          simp only [Bool.and_eq_true] at hc
          rw [hc.1]; simp
        | false => simp only [cond_false]; simp
      exact h2
theorem last_ok {v : VW} {key : Int} {x : LW} {n : Int} (e : EI v key x n) : (decide (n < 41) || x.over) = true := by
  have R := LW.r.1 e.r
  have := e.h; have := R.h1
  by_cases h : n < 41
  · simp [h]
  · have h41 : 40 < x.hops := by omega
    have := R.c
    rw [if_pos h41] at this
    simp [LW.over, this.1]
end Go.Proofs.Ytbeocehhclfbiaa.Lite
section
set_option maxRecDepth 20000
set_option maxHeartbeats 4000000
namespace Go.Proofs.Ytbeocehhclfbiaa.Lite
open Go
attribute [local simp] WL_of WL_nil WL_blk WL_skip WL_label WL_exit WL_goto WL_seq WL_block WL_cond WL_reg WL_ret WJ_nil WJ_ex WJ_gt WJ_rt WJ_exb WJ_gtb WJ_rtb WLO_nil WLO_call WO_mv WO_pick WO_new WO_box WO_ld WO_ldn WO_st WO_off WO_ixa WO_ixs WO_fld WO_fldn WO_ixv WO_ixvn WO_ixb WO_bin WO_eqb WO_isn WO_eqs WO_not WO_conv WO_mkf WO_bld WO_bls WO_sla WO_sls WO_sl0 WO_len WO_app WO_mnx WO_ext WO_nilc wants_none wants_some wantv_b wantv_t WLV_true WLV_false WLC_false WLB_true WLB_false evX_t evX_c evXs_nil evXs_cons look_put look_putN look_cons look_arg0 look_arg stepK binOpA intOp strOp evRes oneOf outs gc toDV AV.dat? I Bo av_s List.map List.append_nil getO putO AV.cellsOf bne WL_dreg WLP_nil WLP_call WP_mv WP_pick WP_new WP_box WP_ld WP_ldn WP_off WP_ixa WP_ixs WP_fld WP_fldn WP_ixv WP_ixvn WP_ixb WP_bin WP_eqb WP_isn WP_eqs WP_not WP_conv WP_mkf WP_bld WP_bls WP_sla WP_sls WP_sl0 WP_len WP_app WP_mnx WP_ext WP_nilc WLPV_true WLPV_false WLPC_false WLC_tells WLPC_tells padH onNm onEx List.getElem?_cons_zero List.getElem?_cons_succ List.getElem?_nil restrict AV.lows lay AV.isCell lowObj AObj.lows WJ_nm AV.lows.go WL_scope onGt_rt onGt_nm onGt_ex WL_sreg WP_st preSt eraseB List.set_cons_zero List.set_cons_succ

noncomputable def TH10 : Tbl := tbl [(24, garlandref13_Right_F), (30, garlandlaw18_wakes_F), (33, look_Begin_F), (41, look_Over_F), (16, garlandref16_Next_F), (35, look_Told_F), (43, garlandlaw18_tell_F), (23, garlandref16_Closer_F)]
theorem TH10_ok : TblOK Try.prog TH10 := tbl_ok (by
  simp only [List.mem_cons, List.not_mem_nil, or_false]
  rintro p (rfl | rfl | rfl | rfl | rfl | rfl | rfl | rfl)
  · exact garlandref13_Right
  · exact garlandlaw18_wakes
  · exact look_Begin
  · exact look_Over
  · exact garlandref16_Next
  · exact look_Told
  · exact garlandlaw18_tell
  · exact garlandref16_Closer)
instance : Has TH10 24 garlandref13_Right_F := ⟨rfl⟩
instance : Has TH10 30 garlandlaw18_wakes_F := ⟨rfl⟩
instance : Has TH10 33 look_Begin_F := ⟨rfl⟩
instance : Has TH10 41 look_Over_F := ⟨rfl⟩
instance : Has TH10 16 garlandref16_Next_F := ⟨rfl⟩
instance : Has TH10 35 look_Told_F := ⟨rfl⟩
instance : Has TH10 43 garlandlaw18_tell_F := ⟨rfl⟩
instance : Has TH10 23 garlandref16_Closer_F := ⟨rfl⟩

def L10a : CCode := (.loop [0, 1, 2, 7] (.seq (.seq (.reg (⟨(some 26), .mv (.t 7), none⟩ ::
    ⟨(some 27), .mv (.t 0), none⟩ ::
    ⟨(some 28), .len false (.t 27), none⟩ ::
    ⟨(some 29), .bin .lss (.t 26) (.t 28), none⟩ ::
    []))
  (.cond (.t 29) .skip (.exit 0)))
  (.seq (.block 1 (.seq (.seq (.reg (⟨(some 32), .mv (.t 0), none⟩ ::
    ⟨(some 33), .mv (.t 7), none⟩ ::
    ⟨(some 34), .ixs 20 (.t 32) (.t 33), none⟩ ::
    ⟨(some 35), .ldn 20 (.t 34), none⟩ ::
    ⟨(some 36), .call (.c (.fn 24 [])) [(.t 35)], none⟩ ::
    ⟨(some 37), .not (.t 36), none⟩ ::
    []))
  (.cond (.t 37) (.seq (.reg (⟨(some 38), .call (.c (.fn 30 [])) [], none⟩ ::
    ⟨(some 6), .mv (.t 38), none⟩ ::
    []))
  .ret) .skip))
  (.seq (.reg (⟨(some 8), .mv (.c (.d (.int .i64 0))), none⟩ ::
    []))
  (.block 2 (.loop [0, 1, 2, 7, 8] (.seq (.seq (.reg (⟨(some 39), .mv (.t 8), none⟩ ::
    ⟨(some 40), .mv (.t 7), none⟩ ::
    ⟨(some 41), .bin .lss (.t 39) (.t 40), none⟩ ::
    []))
  (.cond (.t 41) .skip (.exit 2)))
  (.seq (.block 3 (.seq (.dreg (⟨(some 44), .mv (.t 0), none⟩ ::
    ⟨(some 45), .mv (.t 8), none⟩ ::
    ⟨(some 46), .ixs 20 (.t 44) (.t 45), none⟩ ::
    ⟨(some 47), .off 0 (.t 46), none⟩ ::
    ⟨(some 48), .ld (.t 47), none⟩ ::
    ⟨(some 49), .mv (.t 0), none⟩ ::
    ⟨(some 50), .mv (.t 7), none⟩ ::
    ⟨(some 51), .ixs 20 (.t 49) (.t 50), none⟩ ::
    ⟨(some 52), .off 0 (.t 51), none⟩ ::
    ⟨(some 53), .ld (.t 52), none⟩ ::
    ⟨(some 54), .bin .eql (.t 48) (.t 53), none⟩ ::
    []) ([]))
  (.cond (.t 54) (.seq (.reg (⟨(some 55), .call (.c (.fn 30 [])) [], none⟩ ::
    ⟨(some 6), .mv (.t 55), none⟩ ::
    []))
  .ret) .skip)))
  (.reg (⟨(some 42), .mv (.t 8), none⟩ ::
    ⟨(some 43), .bin .add (.t 42) (.c (.d (.int .i64 1))), none⟩ ::
    ⟨(some 8), .mv (.t 43), none⟩ ::
    [])))))))))
  (.reg (⟨(some 30), .mv (.t 7), none⟩ ::
    ⟨(some 31), .bin .add (.t 30) (.c (.d (.int .i64 1))), none⟩ ::
    ⟨(some 7), .mv (.t 31), none⟩ ::
    [])))))
theorem L10a_eq : L10a = .loop [0, 1, 2, 7] (.seq (.seq (.reg (⟨(some 26), .mv (.t 7), none⟩ ::
    ⟨(some 27), .mv (.t 0), none⟩ ::
    ⟨(some 28), .len false (.t 27), none⟩ ::
    ⟨(some 29), .bin .lss (.t 26) (.t 28), none⟩ ::
    []))
  (.cond (.t 29) .skip (.exit 0)))
  (.seq (.block 1 (.seq (.seq (.reg (⟨(some 32), .mv (.t 0), none⟩ ::
    ⟨(some 33), .mv (.t 7), none⟩ ::
    ⟨(some 34), .ixs 20 (.t 32) (.t 33), none⟩ ::
    ⟨(some 35), .ldn 20 (.t 34), none⟩ ::
    ⟨(some 36), .call (.c (.fn 24 [])) [(.t 35)], none⟩ ::
    ⟨(some 37), .not (.t 36), none⟩ ::
    []))
  (.cond (.t 37) (.seq (.reg (⟨(some 38), .call (.c (.fn 30 [])) [], none⟩ ::
    ⟨(some 6), .mv (.t 38), none⟩ ::
    []))
  .ret) .skip))
  (.seq (.reg (⟨(some 8), .mv (.c (.d (.int .i64 0))), none⟩ ::
    []))
  (.block 2 (.loop [0, 1, 2, 7, 8] (.seq (.seq (.reg (⟨(some 39), .mv (.t 8), none⟩ ::
    ⟨(some 40), .mv (.t 7), none⟩ ::
    ⟨(some 41), .bin .lss (.t 39) (.t 40), none⟩ ::
    []))
  (.cond (.t 41) .skip (.exit 2)))
  (.seq (.block 3 (.seq (.dreg (⟨(some 44), .mv (.t 0), none⟩ ::
    ⟨(some 45), .mv (.t 8), none⟩ ::
    ⟨(some 46), .ixs 20 (.t 44) (.t 45), none⟩ ::
    ⟨(some 47), .off 0 (.t 46), none⟩ ::
    ⟨(some 48), .ld (.t 47), none⟩ ::
    ⟨(some 49), .mv (.t 0), none⟩ ::
    ⟨(some 50), .mv (.t 7), none⟩ ::
    ⟨(some 51), .ixs 20 (.t 49) (.t 50), none⟩ ::
    ⟨(some 52), .off 0 (.t 51), none⟩ ::
    ⟨(some 53), .ld (.t 52), none⟩ ::
    ⟨(some 54), .bin .eql (.t 48) (.t 53), none⟩ ::
    []) ([]))
  (.cond (.t 54) (.seq (.reg (⟨(some 55), .call (.c (.fn 30 [])) [], none⟩ ::
    ⟨(some 6), .mv (.t 55), none⟩ ::
    []))
  .ret) .skip)))
  (.reg (⟨(some 42), .mv (.t 8), none⟩ ::
    ⟨(some 43), .bin .add (.t 42) (.c (.d (.int .i64 1))), none⟩ ::
    ⟨(some 8), .mv (.t 43), none⟩ ::
    [])))))))))
  (.reg (⟨(some 30), .mv (.t 7), none⟩ ::
    ⟨(some 31), .bin .add (.t 30) (.c (.d (.int .i64 1))), none⟩ ::
    ⟨(some 7), .mv (.t 31), none⟩ ::
    [])))) := rfl
def L10b : CCode := (.loop [0, 1, 2, 7, 8] (.seq (.seq (.reg (⟨(some 39), .mv (.t 8), none⟩ ::
    ⟨(some 40), .mv (.t 7), none⟩ ::
    ⟨(some 41), .bin .lss (.t 39) (.t 40), none⟩ ::
    []))
  (.cond (.t 41) .skip (.exit 2)))
  (.seq (.block 3 (.seq (.dreg (⟨(some 44), .mv (.t 0), none⟩ ::
    ⟨(some 45), .mv (.t 8), none⟩ ::
    ⟨(some 46), .ixs 20 (.t 44) (.t 45), none⟩ ::
    ⟨(some 47), .off 0 (.t 46), none⟩ ::
    ⟨(some 48), .ld (.t 47), none⟩ ::
    ⟨(some 49), .mv (.t 0), none⟩ ::
    ⟨(some 50), .mv (.t 7), none⟩ ::
    ⟨(some 51), .ixs 20 (.t 49) (.t 50), none⟩ ::
    ⟨(some 52), .off 0 (.t 51), none⟩ ::
    ⟨(some 53), .ld (.t 52), none⟩ ::
    ⟨(some 54), .bin .eql (.t 48) (.t 53), none⟩ ::
    []) ([]))
  (.cond (.t 54) (.seq (.reg (⟨(some 55), .call (.c (.fn 30 [])) [], none⟩ ::
    ⟨(some 6), .mv (.t 55), none⟩ ::
    []))
  .ret) .skip)))
  (.reg (⟨(some 42), .mv (.t 8), none⟩ ::
    ⟨(some 43), .bin .add (.t 42) (.c (.d (.int .i64 1))), none⟩ ::
    ⟨(some 8), .mv (.t 43), none⟩ ::
    [])))))
theorem L10b_eq : L10b = .loop [0, 1, 2, 7, 8] (.seq (.seq (.reg (⟨(some 39), .mv (.t 8), none⟩ ::
    ⟨(some 40), .mv (.t 7), none⟩ ::
    ⟨(some 41), .bin .lss (.t 39) (.t 40), none⟩ ::
    []))
  (.cond (.t 41) .skip (.exit 2)))
  (.seq (.block 3 (.seq (.dreg (⟨(some 44), .mv (.t 0), none⟩ ::
    ⟨(some 45), .mv (.t 8), none⟩ ::
    ⟨(some 46), .ixs 20 (.t 44) (.t 45), none⟩ ::
    ⟨(some 47), .off 0 (.t 46), none⟩ ::
    ⟨(some 48), .ld (.t 47), none⟩ ::
    ⟨(some 49), .mv (.t 0), none⟩ ::
    ⟨(some 50), .mv (.t 7), none⟩ ::
    ⟨(some 51), .ixs 20 (.t 49) (.t 50), none⟩ ::
    ⟨(some 52), .off 0 (.t 51), none⟩ ::
    ⟨(some 53), .ld (.t 52), none⟩ ::
    ⟨(some 54), .bin .eql (.t 48) (.t 53), none⟩ ::
    []) ([]))
  (.cond (.t 54) (.seq (.reg (⟨(some 55), .call (.c (.fn 30 [])) [], none⟩ ::
    ⟨(some 6), .mv (.t 55), none⟩ ::
    []))
  .ret) .skip)))
  (.reg (⟨(some 42), .mv (.t 8), none⟩ ::
    ⟨(some 43), .bin .add (.t 42) (.c (.d (.int .i64 1))), none⟩ ::
    ⟨(some 8), .mv (.t 43), none⟩ ::
    [])))) := rfl
def L10c : CCode := (.loop [0, 1, 9, 10, 11] (.seq (.seq (.reg (⟨(some 72), .mv (.t 11), none⟩ ::
    ⟨(some 73), .mv (.t 0), none⟩ ::
    ⟨(some 74), .len false (.t 73), none⟩ ::
    ⟨(some 75), .bin .leq (.t 72) (.t 74), none⟩ ::
    []))
  (.cond (.t 75) .skip (.exit 4)))
  (.seq (.block 5 (.seq (.seq (.reg (⟨(some 78), .ldn 6 (.t 10), none⟩ ::
    ⟨(some 79), .call (.c (.fn 41 [])) [(.t 78)], none⟩ ::
    []))
  (.cond (.t 79) (.seq (.reg (⟨(some 80), .off 4 (.t 10), none⟩ ::
    ⟨(some 81), .ld (.t 80), none⟩ ::
    ⟨(some 82), .mv (.t 81), none⟩ ::
    ⟨(some 83), .off 5 (.t 10), (some (82, true))⟩ ::
    ⟨(some 84), .ld (.t 83), (some (82, true))⟩ ::
    ⟨(some 85), .bin .eql (.t 84) (.c (.d (.int .i64 0))), (some (82, true))⟩ ::
    ⟨(some 86), .pick (.t 82) (.t 85) (.c (.d (.bool false))), none⟩ ::
    ⟨(some 87), .mv (.t 86), none⟩ ::
    ⟨(some 88), .off 2 (.t 10), (some (87, true))⟩ ::
    ⟨(some 89), .ld (.t 88), (some (87, true))⟩ ::
    ⟨(some 90), .mv (.t 11), (some (87, true))⟩ ::
    ⟨(some 91), .bin .eql (.t 89) (.t 90), (some (87, true))⟩ ::
    ⟨(some 92), .pick (.t 87) (.t 91) (.c (.d (.bool false))), none⟩ ::
    ⟨(some 93), .mv (.t 92), none⟩ ::
    ⟨(some 94), .call (.c (.fn 30 [])) [], (some (93, true))⟩ ::
    ⟨(some 95), .pick (.t 93) (.t 94) (.c (.d (.bool false))), none⟩ ::
    ⟨(some 6), .mv (.t 95), none⟩ ::
    []))
  .ret) .skip))
  (.seq (.reg (⟨(some 12), .mv (.c (.d (.int .i64 (-1)))), none⟩ ::
    []))
  (.seq (.seq (.reg (⟨(some 13), .mv (.c (.d (.int .i64 0))), none⟩ ::
    []))
  (.block 6 (.loop [0, 1, 9, 10, 11, 12, 13] (.seq (.seq (.reg (⟨(some 96), .mv (.t 13), none⟩ ::
    ⟨(some 97), .mv (.t 0), none⟩ ::
    ⟨(some 98), .len false (.t 97), none⟩ ::
    ⟨(some 99), .bin .lss (.t 96) (.t 98), none⟩ ::
    []))
  (.cond (.t 99) .skip (.exit 6)))
  (.seq (.block 7 (.seq (.dreg (⟨(some 102), .mv (.t 0), none⟩ ::
    ⟨(some 103), .mv (.t 13), none⟩ ::
    ⟨(some 104), .ixs 20 (.t 102) (.t 103), none⟩ ::
    ⟨(some 105), .off 0 (.t 104), none⟩ ::
    ⟨(some 106), .ld (.t 105), none⟩ ::
    ⟨(some 107), .off 1 (.t 10), none⟩ ::
    ⟨(some 108), .ld (.t 107), none⟩ ::
    ⟨(some 109), .bin .eql (.t 106) (.t 108), none⟩ ::
    []) ([]))
  (.cond (.t 109) (.reg (⟨(some 110), .mv (.t 13), none⟩ ::
    ⟨(some 12), .mv (.t 110), none⟩ ::
    [])) .skip)))
  (.reg (⟨(some 100), .mv (.t 13), none⟩ ::
    ⟨(some 101), .bin .add (.t 100) (.c (.d (.int .i64 1))), none⟩ ::
    ⟨(some 13), .mv (.t 101), none⟩ ::
    [])))))))
  (.seq (.seq (.reg (⟨(some 111), .mv (.t 12), none⟩ ::
    ⟨(some 112), .bin .lss (.t 111) (.c (.d (.int .i64 0))), none⟩ ::
    []))
  (.cond (.t 112) (.seq (.reg (⟨(some 113), .call (.c (.fn 30 [])) [], none⟩ ::
    ⟨(some 6), .mv (.t 113), none⟩ ::
    []))
  .ret) .skip))
  (.seq (.reg (⟨(some 115), .mv (.t 0), none⟩ ::
    ⟨(some 116), .mv (.t 12), none⟩ ::
    ⟨(some 117), .ixs 20 (.t 115) (.t 116), none⟩ ::
    ⟨(some 118), .ldn 20 (.t 117), none⟩ ::
    ⟨(some 119), .mv (.t 1), none⟩ ::
    ⟨(some 120), .call (.c (.fn 16 [])) [(.t 118), (.t 119), (.c (.d (.bool false)))], none⟩ ::
    ⟨(some 114), .mv (.t 120), none⟩ ::
    ⟨(some 121), .ext (.t 114) 0, none⟩ ::
    ⟨(some 122), .ext (.t 114) 1, none⟩ ::
    ⟨(some 14), .mv (.t 121), none⟩ ::
    ⟨(some 15), .mv (.t 122), none⟩ ::
    []))
  (.seq (.dreg (⟨(some 123), .ldn 20 (.t 9), none⟩ ::
    ⟨(some 124), .ldn 6 (.t 10), none⟩ ::
    ⟨(some 125), .off 1 (.t 10), none⟩ ::
    ⟨(some 126), .ld (.t 125), none⟩ ::
    ⟨(some 127), .off 0 (.t 9), none⟩ ::
    ⟨(some 128), .ld (.t 127), none⟩ ::
    ⟨(some 129), .mv (.t 14), none⟩ ::
    ⟨(some 130), .mv (.t 15), none⟩ ::
    ⟨(some 131), .call (.c (.fn 43 [])) [(.t 126), (.t 128), (.t 129), (.t 130)], none⟩ ::
    ⟨(some 132), .call (.c (.fn 35 [])) [(.t 123), (.t 124), (.t 131)], none⟩ ::
    ⟨(some 16), .new [.d (.int .i64 0), .d (.int .i64 0), .d (.int .i64 0), .d (.bool false), .d (.bool false), .d (.int .i64 0)], none⟩ ::
    []) (⟨none, .st 6 (.t 16) (.t 132), none⟩ ::
    []))
  (.seq (.seq (.reg (⟨(some 133), .off 4 (.t 16), none⟩ ::
    ⟨(some 134), .ld (.t 133), none⟩ ::
    ⟨(some 135), .mv (.t 15), none⟩ ::
    ⟨(some 136), .eqb true (.t 134) (.t 135), none⟩ ::
    ⟨(some 137), .mv (.t 136), none⟩ ::
    ⟨(some 138), .off 1 (.t 16), (some (137, false))⟩ ::
    ⟨(some 139), .ld (.t 138), (some (137, false))⟩ ::
    ⟨(some 140), .mv (.t 14), (some (137, false))⟩ ::
    ⟨(some 141), .bin .neq (.t 139) (.t 140), (some (137, false))⟩ ::
    ⟨(some 142), .pick (.t 137) (.c (.d (.bool true))) (.t 141), none⟩ ::
    ⟨(some 143), .mv (.t 142), none⟩ ::
    ⟨(some 144), .mv (.t 15), (some (143, false))⟩ ::
    ⟨(some 145), .not (.t 144), (some (143, false))⟩ ::
    ⟨(some 146), .mv (.t 145), (some (143, false))⟩ ::
    ⟨(some 147), .mv (.t 1), (some (146, true))⟩ ::
    ⟨(some 148), .off 1 (.t 10), (some (146, true))⟩ ::
    ⟨(some 149), .ld (.t 148), (some (146, true))⟩ ::
    ⟨(some 150), .mv (.t 14), (some (146, true))⟩ ::
    ⟨(some 151), .call (.c (.fn 23 [])) [(.t 147), (.t 149), (.t 150)], (some (146, true))⟩ ::
    ⟨(some 152), .not (.t 151), (some (146, true))⟩ ::
    ⟨(some 153), .pick (.t 146) (.t 152) (.c (.d (.bool false))), (some (143, false))⟩ ::
    ⟨(some 154), .pick (.t 143) (.c (.d (.bool true))) (.t 153), none⟩ ::
    ⟨(some 155), .mv (.t 154), none⟩ ::
    ⟨(some 156), .mv (.t 14), (some (155, false))⟩ ::
    ⟨(some 157), .off 0 (.t 9), (some (155, false))⟩ ::
    ⟨(some 158), .ld (.t 157), (some (155, false))⟩ ::
    ⟨(some 159), .bin .eql (.t 156) (.t 158), (some (155, false))⟩ ::
    ⟨(some 160), .mv (.t 159), (some (155, false))⟩ ::
    ⟨(some 161), .mv (.t 15), (some (160, true))⟩ ::
    ⟨(some 162), .not (.t 161), (some (160, true))⟩ ::
    ⟨(some 163), .pick (.t 160) (.t 162) (.c (.d (.bool false))), (some (155, false))⟩ ::
    ⟨(some 164), .pick (.t 155) (.c (.d (.bool true))) (.t 163), none⟩ ::
    []))
  (.cond (.t 164) (.seq (.reg (⟨(some 165), .mv (.t 14), none⟩ ::
    ⟨(some 166), .off 0 (.t 9), none⟩ ::
    ⟨(some 167), .ld (.t 166), none⟩ ::
    ⟨(some 168), .bin .eql (.t 165) (.t 167), none⟩ ::
    ⟨(some 169), .mv (.t 168), none⟩ ::
    ⟨(some 170), .mv (.t 15), (some (169, true))⟩ ::
    ⟨(some 171), .not (.t 170), (some (169, true))⟩ ::
    ⟨(some 172), .pick (.t 169) (.t 171) (.c (.d (.bool false))), none⟩ ::
    ⟨(some 173), .mv (.t 172), none⟩ ::
    ⟨(some 174), .call (.c (.fn 30 [])) [], (some (173, true))⟩ ::
    ⟨(some 175), .pick (.t 173) (.t 174) (.c (.d (.bool false))), none⟩ ::
    ⟨(some 6), .mv (.t 175), none⟩ ::
    []))
  .ret) .skip))
  (.reg (⟨(some 176), .ldn 6 (.t 16), none⟩ ::
    ⟨none, .st 6 (.t 10) (.t 176), none⟩ ::
    []))))))))))
  (.reg (⟨(some 76), .mv (.t 11), none⟩ ::
    ⟨(some 77), .bin .add (.t 76) (.c (.d (.int .i64 1))), none⟩ ::
    ⟨(some 11), .mv (.t 77), none⟩ ::
    [])))))
theorem L10c_eq : L10c = .loop [0, 1, 9, 10, 11] (.seq (.seq (.reg (⟨(some 72), .mv (.t 11), none⟩ ::
    ⟨(some 73), .mv (.t 0), none⟩ ::
    ⟨(some 74), .len false (.t 73), none⟩ ::
    ⟨(some 75), .bin .leq (.t 72) (.t 74), none⟩ ::
    []))
  (.cond (.t 75) .skip (.exit 4)))
  (.seq (.block 5 (.seq (.seq (.reg (⟨(some 78), .ldn 6 (.t 10), none⟩ ::
    ⟨(some 79), .call (.c (.fn 41 [])) [(.t 78)], none⟩ ::
    []))
  (.cond (.t 79) (.seq (.reg (⟨(some 80), .off 4 (.t 10), none⟩ ::
    ⟨(some 81), .ld (.t 80), none⟩ ::
    ⟨(some 82), .mv (.t 81), none⟩ ::
    ⟨(some 83), .off 5 (.t 10), (some (82, true))⟩ ::
    ⟨(some 84), .ld (.t 83), (some (82, true))⟩ ::
    ⟨(some 85), .bin .eql (.t 84) (.c (.d (.int .i64 0))), (some (82, true))⟩ ::
    ⟨(some 86), .pick (.t 82) (.t 85) (.c (.d (.bool false))), none⟩ ::
    ⟨(some 87), .mv (.t 86), none⟩ ::
    ⟨(some 88), .off 2 (.t 10), (some (87, true))⟩ ::
    ⟨(some 89), .ld (.t 88), (some (87, true))⟩ ::
    ⟨(some 90), .mv (.t 11), (some (87, true))⟩ ::
    ⟨(some 91), .bin .eql (.t 89) (.t 90), (some (87, true))⟩ ::
    ⟨(some 92), .pick (.t 87) (.t 91) (.c (.d (.bool false))), none⟩ ::
    ⟨(some 93), .mv (.t 92), none⟩ ::
    ⟨(some 94), .call (.c (.fn 30 [])) [], (some (93, true))⟩ ::
    ⟨(some 95), .pick (.t 93) (.t 94) (.c (.d (.bool false))), none⟩ ::
    ⟨(some 6), .mv (.t 95), none⟩ ::
    []))
  .ret) .skip))
  (.seq (.reg (⟨(some 12), .mv (.c (.d (.int .i64 (-1)))), none⟩ ::
    []))
  (.seq (.seq (.reg (⟨(some 13), .mv (.c (.d (.int .i64 0))), none⟩ ::
    []))
  (.block 6 (.loop [0, 1, 9, 10, 11, 12, 13] (.seq (.seq (.reg (⟨(some 96), .mv (.t 13), none⟩ ::
    ⟨(some 97), .mv (.t 0), none⟩ ::
    ⟨(some 98), .len false (.t 97), none⟩ ::
    ⟨(some 99), .bin .lss (.t 96) (.t 98), none⟩ ::
    []))
  (.cond (.t 99) .skip (.exit 6)))
  (.seq (.block 7 (.seq (.dreg (⟨(some 102), .mv (.t 0), none⟩ ::
    ⟨(some 103), .mv (.t 13), none⟩ ::
    ⟨(some 104), .ixs 20 (.t 102) (.t 103), none⟩ ::
    ⟨(some 105), .off 0 (.t 104), none⟩ ::
    ⟨(some 106), .ld (.t 105), none⟩ ::
    ⟨(some 107), .off 1 (.t 10), none⟩ ::
    ⟨(some 108), .ld (.t 107), none⟩ ::
    ⟨(some 109), .bin .eql (.t 106) (.t 108), none⟩ ::
    []) ([]))
  (.cond (.t 109) (.reg (⟨(some 110), .mv (.t 13), none⟩ ::
    ⟨(some 12), .mv (.t 110), none⟩ ::
    [])) .skip)))
  (.reg (⟨(some 100), .mv (.t 13), none⟩ ::
    ⟨(some 101), .bin .add (.t 100) (.c (.d (.int .i64 1))), none⟩ ::
    ⟨(some 13), .mv (.t 101), none⟩ ::
    [])))))))
  (.seq (.seq (.reg (⟨(some 111), .mv (.t 12), none⟩ ::
    ⟨(some 112), .bin .lss (.t 111) (.c (.d (.int .i64 0))), none⟩ ::
    []))
  (.cond (.t 112) (.seq (.reg (⟨(some 113), .call (.c (.fn 30 [])) [], none⟩ ::
    ⟨(some 6), .mv (.t 113), none⟩ ::
    []))
  .ret) .skip))
  (.seq (.reg (⟨(some 115), .mv (.t 0), none⟩ ::
    ⟨(some 116), .mv (.t 12), none⟩ ::
    ⟨(some 117), .ixs 20 (.t 115) (.t 116), none⟩ ::
    ⟨(some 118), .ldn 20 (.t 117), none⟩ ::
    ⟨(some 119), .mv (.t 1), none⟩ ::
    ⟨(some 120), .call (.c (.fn 16 [])) [(.t 118), (.t 119), (.c (.d (.bool false)))], none⟩ ::
    ⟨(some 114), .mv (.t 120), none⟩ ::
    ⟨(some 121), .ext (.t 114) 0, none⟩ ::
    ⟨(some 122), .ext (.t 114) 1, none⟩ ::
    ⟨(some 14), .mv (.t 121), none⟩ ::
    ⟨(some 15), .mv (.t 122), none⟩ ::
    []))
  (.seq (.dreg (⟨(some 123), .ldn 20 (.t 9), none⟩ ::
    ⟨(some 124), .ldn 6 (.t 10), none⟩ ::
    ⟨(some 125), .off 1 (.t 10), none⟩ ::
    ⟨(some 126), .ld (.t 125), none⟩ ::
    ⟨(some 127), .off 0 (.t 9), none⟩ ::
    ⟨(some 128), .ld (.t 127), none⟩ ::
    ⟨(some 129), .mv (.t 14), none⟩ ::
    ⟨(some 130), .mv (.t 15), none⟩ ::
    ⟨(some 131), .call (.c (.fn 43 [])) [(.t 126), (.t 128), (.t 129), (.t 130)], none⟩ ::
    ⟨(some 132), .call (.c (.fn 35 [])) [(.t 123), (.t 124), (.t 131)], none⟩ ::
    ⟨(some 16), .new [.d (.int .i64 0), .d (.int .i64 0), .d (.int .i64 0), .d (.bool false), .d (.bool false), .d (.int .i64 0)], none⟩ ::
    []) (⟨none, .st 6 (.t 16) (.t 132), none⟩ ::
    []))
  (.seq (.seq (.reg (⟨(some 133), .off 4 (.t 16), none⟩ ::
    ⟨(some 134), .ld (.t 133), none⟩ ::
    ⟨(some 135), .mv (.t 15), none⟩ ::
    ⟨(some 136), .eqb true (.t 134) (.t 135), none⟩ ::
    ⟨(some 137), .mv (.t 136), none⟩ ::
    ⟨(some 138), .off 1 (.t 16), (some (137, false))⟩ ::
    ⟨(some 139), .ld (.t 138), (some (137, false))⟩ ::
    ⟨(some 140), .mv (.t 14), (some (137, false))⟩ ::
    ⟨(some 141), .bin .neq (.t 139) (.t 140), (some (137, false))⟩ ::
    ⟨(some 142), .pick (.t 137) (.c (.d (.bool true))) (.t 141), none⟩ ::
    ⟨(some 143), .mv (.t 142), none⟩ ::
    ⟨(some 144), .mv (.t 15), (some (143, false))⟩ ::
    ⟨(some 145), .not (.t 144), (some (143, false))⟩ ::
    ⟨(some 146), .mv (.t 145), (some (143, false))⟩ ::
    ⟨(some 147), .mv (.t 1), (some (146, true))⟩ ::
    ⟨(some 148), .off 1 (.t 10), (some (146, true))⟩ ::
    ⟨(some 149), .ld (.t 148), (some (146, true))⟩ ::
    ⟨(some 150), .mv (.t 14), (some (146, true))⟩ ::
    ⟨(some 151), .call (.c (.fn 23 [])) [(.t 147), (.t 149), (.t 150)], (some (146, true))⟩ ::
    ⟨(some 152), .not (.t 151), (some (146, true))⟩ ::
    ⟨(some 153), .pick (.t 146) (.t 152) (.c (.d (.bool false))), (some (143, false))⟩ ::
    ⟨(some 154), .pick (.t 143) (.c (.d (.bool true))) (.t 153), none⟩ ::
    ⟨(some 155), .mv (.t 154), none⟩ ::
    ⟨(some 156), .mv (.t 14), (some (155, false))⟩ ::
    ⟨(some 157), .off 0 (.t 9), (some (155, false))⟩ ::
    ⟨(some 158), .ld (.t 157), (some (155, false))⟩ ::
    ⟨(some 159), .bin .eql (.t 156) (.t 158), (some (155, false))⟩ ::
    ⟨(some 160), .mv (.t 159), (some (155, false))⟩ ::
    ⟨(some 161), .mv (.t 15), (some (160, true))⟩ ::
    ⟨(some 162), .not (.t 161), (some (160, true))⟩ ::
    ⟨(some 163), .pick (.t 160) (.t 162) (.c (.d (.bool false))), (some (155, false))⟩ ::
    ⟨(some 164), .pick (.t 155) (.c (.d (.bool true))) (.t 163), none⟩ ::
    []))
  (.cond (.t 164) (.seq (.reg (⟨(some 165), .mv (.t 14), none⟩ ::
    ⟨(some 166), .off 0 (.t 9), none⟩ ::
    ⟨(some 167), .ld (.t 166), none⟩ ::
    ⟨(some 168), .bin .eql (.t 165) (.t 167), none⟩ ::
    ⟨(some 169), .mv (.t 168), none⟩ ::
    ⟨(some 170), .mv (.t 15), (some (169, true))⟩ ::
    ⟨(some 171), .not (.t 170), (some (169, true))⟩ ::
    ⟨(some 172), .pick (.t 169) (.t 171) (.c (.d (.bool false))), none⟩ ::
    ⟨(some 173), .mv (.t 172), none⟩ ::
    ⟨(some 174), .call (.c (.fn 30 [])) [], (some (173, true))⟩ ::
    ⟨(some 175), .pick (.t 173) (.t 174) (.c (.d (.bool false))), none⟩ ::
    ⟨(some 6), .mv (.t 175), none⟩ ::
    []))
  .ret) .skip))
  (.reg (⟨(some 176), .ldn 6 (.t 16), none⟩ ::
    ⟨none, .st 6 (.t 10) (.t 176), none⟩ ::
    []))))))))))
  (.reg (⟨(some 76), .mv (.t 11), none⟩ ::
    ⟨(some 77), .bin .add (.t 76) (.c (.d (.int .i64 1))), none⟩ ::
    ⟨(some 11), .mv (.t 77), none⟩ ::
    [])))) := rfl
def L10d : CCode := (.loop [0, 1, 9, 10, 11, 12, 13] (.seq (.seq (.reg (⟨(some 96), .mv (.t 13), none⟩ ::
    ⟨(some 97), .mv (.t 0), none⟩ ::
    ⟨(some 98), .len false (.t 97), none⟩ ::
    ⟨(some 99), .bin .lss (.t 96) (.t 98), none⟩ ::
    []))
  (.cond (.t 99) .skip (.exit 6)))
  (.seq (.block 7 (.seq (.dreg (⟨(some 102), .mv (.t 0), none⟩ ::
    ⟨(some 103), .mv (.t 13), none⟩ ::
    ⟨(some 104), .ixs 20 (.t 102) (.t 103), none⟩ ::
    ⟨(some 105), .off 0 (.t 104), none⟩ ::
    ⟨(some 106), .ld (.t 105), none⟩ ::
    ⟨(some 107), .off 1 (.t 10), none⟩ ::
    ⟨(some 108), .ld (.t 107), none⟩ ::
    ⟨(some 109), .bin .eql (.t 106) (.t 108), none⟩ ::
    []) ([]))
  (.cond (.t 109) (.reg (⟨(some 110), .mv (.t 13), none⟩ ::
    ⟨(some 12), .mv (.t 110), none⟩ ::
    [])) .skip)))
  (.reg (⟨(some 100), .mv (.t 13), none⟩ ::
    ⟨(some 101), .bin .add (.t 100) (.c (.d (.int .i64 1))), none⟩ ::
    ⟨(some 13), .mv (.t 101), none⟩ ::
    [])))))
theorem L10d_eq : L10d = .loop [0, 1, 9, 10, 11, 12, 13] (.seq (.seq (.reg (⟨(some 96), .mv (.t 13), none⟩ ::
    ⟨(some 97), .mv (.t 0), none⟩ ::
    ⟨(some 98), .len false (.t 97), none⟩ ::
    ⟨(some 99), .bin .lss (.t 96) (.t 98), none⟩ ::
    []))
  (.cond (.t 99) .skip (.exit 6)))
  (.seq (.block 7 (.seq (.dreg (⟨(some 102), .mv (.t 0), none⟩ ::
    ⟨(some 103), .mv (.t 13), none⟩ ::
    ⟨(some 104), .ixs 20 (.t 102) (.t 103), none⟩ ::
    ⟨(some 105), .off 0 (.t 104), none⟩ ::
    ⟨(some 106), .ld (.t 105), none⟩ ::
    ⟨(some 107), .off 1 (.t 10), none⟩ ::
    ⟨(some 108), .ld (.t 107), none⟩ ::
    ⟨(some 109), .bin .eql (.t 106) (.t 108), none⟩ ::
    []) ([]))
  (.cond (.t 109) (.reg (⟨(some 110), .mv (.t 13), none⟩ ::
    ⟨(some 12), .mv (.t 110), none⟩ ::
    [])) .skip)))
  (.reg (⟨(some 100), .mv (.t 13), none⟩ ::
    ⟨(some 101), .bin .add (.t 100) (.c (.d (.int .i64 1))), none⟩ ::
    ⟨(some 13), .mv (.t 101), none⟩ ::
    [])))) := rfl

theorem closer_b (l : List VW) (k a : Int) (i : Nat) (hi : i < l.length) (hl : l.length ≤ 8) : ∀ (m j : Nat), i - j = m → j ≤ i → ∀ (env : Env),
    look env 0 = some (.d (.sl (rowsV l))) → look env 1 = some (.d (.int .i64 k)) → look env 2 = some (.d (.int .i64 a)) → look env 7 = some (.d (.int .i64 i)) → look env 8 = some (.d (.int .i64 j)) →
    ∀ (Q : Ex → Env → St → Prop), (∀ env', look env' 0 = some (.d (.sl (rowsV l))) → look env' 1 = some (.d (.int .i64 k)) → look env' 2 = some (.d (.int .i64 a)) → look env' 7 = some (.d (.int .i64 i)) → Q (.ex 2) env' ⟨[], []⟩) →
      (∀ env' h', look env' 6 = some (.d (.bool true)) → Q .rt env' ⟨h', []⟩) → W TH10 ⟨[], 0⟩ L10b env ⟨[], []⟩ Q := by
  intro m
  induction m with
  | zero =>
    intro j hm hj env h0 h1 h2 h7 h8 Q hQ1 hQ2
    have hlt : ¬ j < i := by omega
    rw [L10b_eq, W_loop]
    simp [-getElem?_pos, h0, h1, h2, h7, h8, hlt]
    refine hQ1 _ ?_ ?_ ?_ ?_ <;> simp [-getElem?_pos, h0, h1, h2, h7]
  | succ m ih =>
    intro j hm hj env h0 h1 h2 h7 h8 Q hQ1 hQ2
    have hlt : j < i := by omega
    obtain ⟨v, hv⟩ : ∃ v, l[j]? = some v := ⟨_, List.getElem?_eq_getElem (by omega)⟩
    obtain ⟨u, hu⟩ : ∃ u, l[i]? = some u := ⟨_, List.getElem?_eq_getElem hi⟩
    have hw := wrapN1 j (by omega)
    rw [L10b_eq, W_loop]
    simp [-getElem?_pos, h0, h1, h2, h7, h8, hlt, rowsV_get, hv, hu, vd_length, vd_0, -Int.natCast_add]
    all_goals (try (first | refine WLV_splitN (fun hs => ?_) (fun hs => ?_) | refine WLC_splitN (fun hs => ?_) (fun hs => ?_) | refine WLB_splitN (fun hs => ?_) (fun hs => ?_) | refine WLPV_splitN (fun hs => ?_) (fun hs => ?_) | refine WLPC_splitN (fun hs => ?_) (fun hs => ?_) | refine WLPV_split (fun hs => ?_) (fun hs => ?_) | refine WLPC_split (fun hs => ?_) (fun hs => ?_) | refine WLV_split (fun hs => ?_) (fun hs => ?_) | refine WLC_split (fun hs => ?_) (fun hs => ?_) | refine WLB_split (fun hs => ?_) (fun hs => ?_)))
    all_goals (try (have hs' := hs; simp at hs'))
    all_goals (try simp [*, -getElem?_pos, h0, h1, h2, h7, h8, -Int.natCast_add])
    all_goals (refine (WL_of (c := L10b)).1 (ih (j + 1) (by omega) (by omega) _ ?_ ?_ ?_ ?_ ?_ Q hQ1 hQ2) <;> simp [-getElem?_pos, h0, h1, h2, h7, hw, -Int.natCast_add])

theorem closer_a (l : List VW) (k a : Int) (hl : l.length ≤ 8) : ∀ (m i : Nat), l.length - i = m → i ≤ l.length → (∀ v ∈ l.take i, v.right = true) → ∀ (env : Env),
    look env 0 = some (.d (.sl (rowsV l))) → look env 1 = some (.d (.int .i64 k)) → look env 2 = some (.d (.int .i64 a)) → look env 7 = some (.d (.int .i64 i)) →
    ∀ (Q : Ex → Env → St → Prop), ((∀ v ∈ l, v.right = true) → ∀ env', look env' 0 = some (.d (.sl (rowsV l))) → look env' 1 = some (.d (.int .i64 k)) → look env' 2 = some (.d (.int .i64 a)) → Q (.ex 0) env' ⟨[], []⟩) →
      (∀ env' h', look env' 6 = some (.d (.bool true)) → Q .rt env' ⟨h', []⟩) → W TH10 ⟨[], 0⟩ L10a env ⟨[], []⟩ Q := by
  intro m
  induction m with
  | zero =>
    intro i hm hi hr env h0 h1 h2 h7 Q hQ1 hQ2
    have hlt : ¬ i < l.length := by omega
    rw [L10a_eq, W_loop]
    simp [-getElem?_pos, h0, h1, h2, h7, stepK.lenA, rowsV_length, hlt]
    refine hQ1 (by rw [List.take_of_length_le (by omega)] at hr; exact hr) _ ?_ ?_ ?_ <;> simp [-getElem?_pos, h0, h1, h2]
  | succ m ih =>
    intro i hm hi hr env h0 h1 h2 h7 Q hQ1 hQ2
    have hlt : i < l.length := by omega
    obtain ⟨v, hv⟩ : ∃ v, l[i]? = some v := ⟨_, List.getElem?_eq_getElem hlt⟩
    have hw := wrapN1 i (by omega)
    rw [L10a_eq, W_loop]
    cases hvr : v.right with
    | false =>
      simp [-getElem?_pos, h0, h1, h2, h7, stepK.lenA, rowsV_length, hlt, rowsV_get, hv, vd_length, vd_take, vd_map, hvr, -Int.natCast_add]
      refine hQ2 _ _ ?_
      simp [-getElem?_pos]
    | true =>
      simp [-getElem?_pos, h0, h1, h2, h7, stepK.lenA, rowsV_length, hlt, rowsV_get, hv, vd_length, vd_take, vd_map, hvr, -Int.natCast_add]
      rw [WL_code]
      refine closer_b l k a i hlt hl i 0 (by omega) (by omega) _ ?_ ?_ ?_ ?_ ?_ _ (fun env' a0 a1 a2 a7 => ?_) (fun env' h' a6 => ?_)
      all_goals (try (simp [-getElem?_pos, h0, h1, h2, h7]; done))
      · simp [-getElem?_pos, a0, a1, a2, a7, -Int.natCast_add]
        refine (WL_of (c := L10a)).1 (ih (i + 1) (by omega) (by omega) ?_ _ ?_ ?_ ?_ ?_ Q hQ1 hQ2)
        · intro u hu
          rw [List.take_add_one, hv] at hu
          rcases List.mem_append.1 hu with hu | hu
          · exact hr u hu
          · simp at hu; rw [hu]; exact hvr
        all_goals simp [-getElem?_pos, a0, a1, a2, a7, hw, -Int.natCast_add]
      · simp [-getElem?_pos, a6]
        exact hQ2 _ _ a6

theorem closer_d (v : VW) (x : LW) (l : List VW) (k : Int) (hl : l.length ≤ 8) (n : Nat) : ∀ (m i : Nat), l.length - i = m → i ≤ l.length → ∀ (q : Int), isNx l x.loc q → ∀ (env : Env),
    look env 0 = some (.d (.sl (rowsV l))) → look env 1 = some (.d (.int .i64 k)) → look env 9 = some (.ptr 0 0) → look env 10 = some (.ptr 1 0) → look env 11 = some (.d (.int .i64 n)) → look env 12 = some (.d (.int .i64 q)) → look env 13 = some (.d (.int .i64 i)) →
    ∀ (Q : Ex → Env → St → Prop), (∀ q, isNx l x.loc q → ∀ env', look env' 0 = some (.d (.sl (rowsV l))) → look env' 1 = some (.d (.int .i64 k)) → look env' 9 = some (.ptr 0 0) → look env' 10 = some (.ptr 1 0) → look env' 11 = some (.d (.int .i64 n)) → look env' 12 = some (.d (.int .i64 q)) → Q (.ex 6) env' ⟨[some (.cells v.cs), some (.cells x.cs)], []⟩) →
      W TH10 ⟨[], 0⟩ L10d env ⟨[some (.cells v.cs), some (.cells x.cs)], []⟩ Q := by
  intro m
  induction m with
  | zero =>
    intro i hm hi q hq env h0 h1 h9 h10 h11 h12 h13 Q hQ
    have hlt : ¬ i < l.length := by omega
    rw [L10d_eq, W_loop]
    simp [-getElem?_pos, h0, h1, h9, h10, h11, h12, h13, stepK.lenA, rowsV_length, hlt]
    refine hQ q hq _ ?_ ?_ ?_ ?_ ?_ ?_ <;> simp [-getElem?_pos, h0, h1, h9, h10, h11, h12]
  | succ m ih =>
    intro i hm hi q hq env h0 h1 h9 h10 h11 h12 h13 Q hQ
    have hlt : i < l.length := by omega
    obtain ⟨w, hv⟩ : ∃ w, l[i]? = some w := ⟨_, List.getElem?_eq_getElem hlt⟩
    have hw := wrapN1 i (by omega)
    rw [L10d_eq, W_loop]
    simp [-getElem?_pos, h0, h1, h9, h10, h11, h12, h13, stepK.lenA, rowsV_length, hlt, rowsV_get, hv, vd_length, vd_0, lcs_1, cs_all, cs_lows, -Int.natCast_add]
    all_goals (try (first | refine WLV_splitN (fun hs => ?_) (fun hs => ?_) | refine WLC_splitN (fun hs => ?_) (fun hs => ?_) | refine WLB_splitN (fun hs => ?_) (fun hs => ?_) | refine WLPV_splitN (fun hs => ?_) (fun hs => ?_) | refine WLPC_splitN (fun hs => ?_) (fun hs => ?_) | refine WLPV_split (fun hs => ?_) (fun hs => ?_) | refine WLPC_split (fun hs => ?_) (fun hs => ?_) | refine WLV_split (fun hs => ?_) (fun hs => ?_) | refine WLC_split (fun hs => ?_) (fun hs => ?_) | refine WLB_split (fun hs => ?_) (fun hs => ?_)))
    all_goals (try (have hs' := hs; simp at hs'))
    all_goals (try simp [*, -getElem?_pos, h0, h1, h9, h10, h11, h12, h13, cs_all, cs_lows, -Int.natCast_add])
    · refine (WL_of (c := L10d)).1 (ih (i + 1) (by omega) (by omega) (i : Int) (.inr ⟨i, w, rfl, hv, by simpa using hs⟩) _ ?_ ?_ ?_ ?_ ?_ ?_ ?_ Q hQ) <;> simp [*, -getElem?_pos, h0, h1, h9, h10, h11, h13, hw, -Int.natCast_add]
    · refine (WL_of (c := L10d)).1 (ih (i + 1) (by omega) (by omega) q hq _ ?_ ?_ ?_ ?_ ?_ ?_ ?_ Q hQ) <;> simp [*, -getElem?_pos, h0, h1, h9, h10, h11, h12, h13, hw, -Int.natCast_add]

/-! main -/
theorem lcs_drop' (l : LW) : l.cs.drop 6 = [] := rfl
theorem csC (v : VW) : v.cs.all AV.isCell = true := by simp [VW.cs, AV.isCell]
theorem cs_drop20 (v : VW) : v.cs.drop 20 = [] := List.drop_eq_nil_of_le (by rw [cs_length]; exact Nat.le_refl _)
theorem told_plain {v : VW} (hv : v.right = true) {key : Int} {x : LW} {n : Int} (e : EI v key x n) (ho : x.over = false) {p : Int} (hp : isPlace p = true) (o : Bool) (h40 : n < 40) (hpo : (p == v.id && !o) = false) :
    told18 v x (tellM x.loc v.id p o) = { x with loc := p, found := o, hops := x.hops + 1 } := by
  have hc := counts_tell hv e.r ho (e.ne ho) hp o
  have hh := e.h
  have h2 : decide (40 < x.hops + 1) = false := by simp; omega
  have h3 : (tellM x.loc v.id p o).place = p := rfl
  have h4 : (tellM x.loc v.id p o).fin = o := rfl
  unfold told18
  rw [hc, cond_true, h2, cond_false, h3, h4]
  unfold LW.on
  rw [hpo]; rfl
theorem ei_code {v : VW} {key : Int} {x : LW} {n : Int} (e : EI v key x n) (h : n ≤ 40) : x.code = 0 := by
  have R := LW.r.1 e.r
  have := R.c
  have := e.h
  rw [if_neg (by omega)] at *
  assumption
theorem closer_c (v : VW) (hv : v.right = true) (l : List VW) (k : Int) (hl : l.length ≤ 8) (hr : ∀ v ∈ l, v.right = true) : ∀ (m n : Nat), l.length - n = m → n ≤ l.length → ∀ (x : LW), EI v k x n → (x.over = false → ∀ w ∈ l, w.id = x.loc → cnt l k w + n < l.length) → ∀ (env : Env),
    look env 0 = some (.d (.sl (rowsV l))) → look env 1 = some (.d (.int .i64 k)) → look env 9 = some (.ptr 0 0) → look env 10 = some (.ptr 1 0) → look env 11 = some (.d (.int .i64 n)) →
    ∀ (Q : Ex → Env → St → Prop), (∀ env' h', look env' 6 = some (.d (.bool true)) → Q .rt env' ⟨h', []⟩) → W TH10 ⟨[], 0⟩ L10c env ⟨[some (.cells v.cs), some (.cells x.cs)], []⟩ Q := by
  have hid := right_id hv
  haveI : Fact (0 ≤ v.id ∧ v.id < 65536) := ⟨hid⟩
  intro m
  induction m with
  | zero =>
    intro n hm hn x e hc env h0 h1 h9 h10 h11 Q hQ
    have e3 := e.h
    have e4 := ei_code e (by omega)
    have hlt : n ≤ l.length := hn
    rw [L10c_eq, W_loop]
    cases ho : x.over with
    | true =>
      have hf : x.found = true := by simpa [LW.over, e4] using ho
      simp [-getElem?_pos, h0, h1, h9, h10, h11, stepK.lenA, rowsV_length, rowsV_get, vd_length, vd_take, vd_map, vd_0, cs_0, cs_length, cs_take, cs_all, cs_lows, lcs_len, lcs_take, lcs_cell, mcsC, mcs_len, mcs_take, mcs_all, mcs_lows, lcs_drop', lcs_0, lcs_1, lcs_2, lcs_3, lcs_4, lcs_5, -Int.natCast_add, hlt, ho, e3, e4, hf]
      refine hQ _ _ ?_
      simp [-getElem?_pos]
    | false =>
      simp [-getElem?_pos, h0, h1, h9, h10, h11, stepK.lenA, rowsV_length, rowsV_get, vd_length, vd_take, vd_map, vd_0, cs_0, cs_length, cs_take, cs_all, cs_lows, lcs_len, lcs_take, lcs_cell, mcsC, mcs_len, mcs_take, mcs_all, mcs_lows, lcs_drop', lcs_0, lcs_1, lcs_2, lcs_3, lcs_4, lcs_5, -Int.natCast_add, hlt, ho]
      rw [WL_code]
      refine closer_d v x l k hl n l.length 0 (by omega) (by omega) (-1) (.inl rfl) _ ?_ ?_ ?_ ?_ ?_ ?_ ?_ _ (fun q hq env' a0 a1 a9 a10 a11 a12 => ?_)
      all_goals (try (simp [-getElem?_pos, h0, h1, h9, h10, h11]; done))
      rcases hq with rfl | ⟨q', w, rfl, hq', hwid⟩
      · simp [-getElem?_pos, a0, a1, a9, a10, a11, a12, -Int.natCast_add]
        refine hQ _ _ ?_
        simp [-getElem?_pos]
      · exfalso
        have := hc ho w (List.mem_of_getElem? hq') hwid
        omega
  | succ m ih =>
    intro n hm hn x e hc env h0 h1 h9 h10 h11 Q hQ
    have e3 := e.h
    have e4 := ei_code e (by omega)
    have hlt : n ≤ l.length := hn
    have hw := wrapN1 n (by omega)
    rw [L10c_eq, W_loop]
    cases ho : x.over with
    | true =>
      have hf : x.found = true := by simpa [LW.over, e4] using ho
      simp [-getElem?_pos, h0, h1, h9, h10, h11, stepK.lenA, rowsV_length, rowsV_get, vd_length, vd_take, vd_map, vd_0, cs_0, cs_length, cs_take, cs_all, cs_lows, lcs_len, lcs_take, lcs_cell, mcsC, mcs_len, mcs_take, mcs_all, mcs_lows, lcs_drop', lcs_0, lcs_1, lcs_2, lcs_3, lcs_4, lcs_5, -Int.natCast_add, hlt, ho, e3, e4, hf]
      refine hQ _ _ ?_
      simp [-getElem?_pos]
    | false =>
      simp [-getElem?_pos, h0, h1, h9, h10, h11, stepK.lenA, rowsV_length, rowsV_get, vd_length, vd_take, vd_map, vd_0, cs_0, cs_length, cs_take, cs_all, cs_lows, lcs_len, lcs_take, lcs_cell, mcsC, mcs_len, mcs_take, mcs_all, mcs_lows, lcs_drop', lcs_0, lcs_1, lcs_2, lcs_3, lcs_4, lcs_5, -Int.natCast_add, hlt, ho]
      rw [WL_code]
      refine closer_d v x l k hl n l.length 0 (by omega) (by omega) (-1) (.inl rfl) _ ?_ ?_ ?_ ?_ ?_ ?_ ?_ _ (fun q hq env' a0 a1 a9 a10 a11 a12 => ?_)
      all_goals (try (simp [-getElem?_pos, h0, h1, h9, h10, h11]; done))
      rcases hq with rfl | ⟨q', w, rfl, hq', hwid⟩
      · simp [-getElem?_pos, a0, a1, a9, a10, a11, a12, -Int.natCast_add]
        refine hQ _ _ ?_
        simp [-getElem?_pos]
      · have hneg : decide ((q' : Int) < 0) = false := by rw [decide_eq_false_iff_not]; omega
        have hneg2 : ¬ (q' : Int) < 0 := by omega
        have hwl := List.mem_of_getElem? hq'
        have hwr := hr w hwl
        have hcw := hc ho w hwl hwid
        have hnp := next_place hwr k false
        have hpp : isPlace (w.next k false).1 = true := (isPlace_iff _).2 ⟨hnp.1, hnp.2.1⟩
        haveI : ∀ y p d, Fact ((tellM y v.id p d).call < 9223372036854775808) := fun y p d => ⟨by show v.id * 1048576 + 1 < _; omega⟩
        have T := ei_told hv e ho hpp (w.next k false).2
        cases hpo : (w.next k false).1 == v.id && !(w.next k false).2 with
        | true =>
          simp only [Bool.and_eq_true, Bool.not_eq_true'] at hpo
          obtain ⟨g1, g2⟩ := hpo
          have g1' : (w.next k false).1 = v.id := by simpa using g1
          clear ih hc
          simp [-getElem?_pos, a0, a1, a9, a10, a11, a12, hneg, hneg2, hq', stepK.lenA, rowsV_length, rowsV_get, vd_length, vd_take, vd_map, vd_0, cs_0, cs_length, cs_take, cs_all, cs_lows, lcs_len, lcs_take, lcs_cell, mcsC, mcs_len, mcs_take, mcs_all, mcs_lows, lcs_drop', lcs_0, lcs_1, lcs_2, lcs_3, lcs_4, lcs_5, -Int.natCast_add, g1', g2]
          generalize told18 v x (tellM x.loc v.id v.id false) = y
          cases f1 : y.found <;> cases f2 : y.loc == v.id <;> cases f3 : closer k x.loc v.id
          all_goals have f2' := f2
          all_goals simp at f2'
          all_goals simp [-getElem?_pos, a0, a1, a9, a10, a11, a12, stepK.lenA, rowsV_length, rowsV_get, vd_length, vd_take, vd_map, vd_0, cs_0, cs_length, cs_take, cs_all, cs_lows, lcs_len, lcs_take, lcs_cell, mcsC, mcs_len, mcs_take, mcs_all, mcs_lows, lcs_drop', lcs_0, lcs_1, lcs_2, lcs_3, lcs_4, lcs_5, -Int.natCast_add, f1, f2, f2', f3]
          all_goals (refine hQ _ _ ?_; simp [-getElem?_pos])
        | false =>
          have ht := told_plain hv e ho hpp (w.next k false).2 (by omega) hpo
          cases o : (w.next k false).2 with
          | true =>
            rw [o] at ht T
            rw [ht] at T
            cases hpo2 : (w.next k false).1 == v.id
            all_goals simp [-getElem?_pos, a0, a1, a9, a10, a11, a12, hneg, hneg2, hq', stepK.lenA, rowsV_length, rowsV_get, vd_length, vd_take, vd_map, vd_0, cs_0, cs_length, cs_take, cs_all, cs_lows, lcs_len, lcs_take, lcs_cell, mcsC, mcs_len, mcs_take, mcs_all, mcs_lows, lcs_drop', lcs_0, lcs_1, lcs_2, lcs_3, lcs_4, lcs_5, -Int.natCast_add, o, ht, hpo2]
            all_goals refine (WL_of (c := L10c)).1 (ih (n + 1) (by omega) (by omega) _ T.e (fun h => by simp [LW.over] at h) _ ?_ ?_ ?_ ?_ ?_ Q hQ) <;> simp [-getElem?_pos, a0, a1, a9, a10, a11, a12, hw, -Int.natCast_add]
          | false =>
            rw [o] at ht T hpo
            rw [ht] at T
            have hpo' : ((w.next k false).1 == v.id) = false := by simpa using hpo
            obtain ⟨g1, g2, g3, g4, _⟩ := next_not hwr o
            have hcl := closer_iff g3 g4
            have hcl2 : left (w.next k false).1 k < left w.id k := by rw [closer_if] at hcl; exact hcl
            rw [hwid] at hcl
            simp [-getElem?_pos, a0, a1, a9, a10, a11, a12, hneg, hneg2, hq', stepK.lenA, rowsV_length, rowsV_get, vd_length, vd_take, vd_map, vd_0, cs_0, cs_length, cs_take, cs_all, cs_lows, lcs_len, lcs_take, lcs_cell, mcsC, mcs_len, mcs_take, mcs_all, mcs_lows, lcs_drop', lcs_0, lcs_1, lcs_2, lcs_3, lcs_4, lcs_5, -Int.natCast_add, o, ht, hcl, hpo']
            refine (WL_of (c := L10c)).1 (ih (n + 1) (by omega) (by omega) _ T.e (fun _ w' hw' hid' => ?_) _ ?_ ?_ ?_ ?_ ?_ Q hQ)
            · have hid' : w'.id = (w.next k false).1 := hid'
              have := cnt_lt (k := k) (v := w) hw' (by rw [hid']; exact hcl2)
              omega
            all_goals simp [-getElem?_pos, a0, a1, a9, a10, a11, a12, hw, -Int.natCast_add]
noncomputable def LookCloser_F := orcOf (fun p : List VW × Int × Int => [.s (.sl (rowsV p.1)), I p.2.1, I p.2.2]) (fun _ => True) (fun _ => [Bo true])
theorem garlandlaw18_LookCloser : Pure Try.prog 10 LookCloser_F := by
  refine con TH10_ok rfl rfl fun ⟨l, k, a⟩ _ => ⟨rfl, ?_⟩
  by_cases h8 : 8 < l.length
  · simp [cf10, -getElem?_pos, stepK.lenA, rowsV_length, show (8 : Int) < l.length by omega]
  by_cases h0 : l.length = 0
  · simp [cf10, -getElem?_pos, stepK.lenA, rowsV_length, h0]
  obtain ⟨q, hq1, hq2, hq3⟩ := tmod_at a l.length (by omega) (by omega)
  have e8 : ¬ (8 : Int) < l.length := by omega
  have e0 : ((l.length : Int) == 0) = false := by rw [beq_eq_false_iff_ne]; omega
  have e0' : ¬ (l.length : Int) = 0 := by omega
  simp [cf10, -getElem?_pos, stepK.lenA, rowsV_length, e8, e0, e0', h8, h0]
  rw [WL_code]
  refine closer_a l k a (by omega) l.length 0 (by omega) (by omega) (fun v hv => by simp at hv) _ ?_ ?_ ?_ ?_ _ (fun hr env' a0 a1 a2 => ?_) (fun env' h' a6 => ?_)
  all_goals (try (simp [-getElem?_pos]; done))
  · obtain ⟨v, hv⟩ : ∃ v, l[q]? = some v := ⟨_, List.getElem?_eq_getElem (by omega)⟩
    have hvl := List.mem_of_getElem? hv
    have hvr := hr v hvl
    simp [-getElem?_pos, a0, a1, a2, stepK.lenA, rowsV_length, rowsV_get, vd_length, vd_take, vd_map, vd_0, cs_0, cs_length, cs_take, cs_all, cs_lows, lcs_len, lcs_take, lcs_cell, mcsC, mcs_len, mcs_take, mcs_all, mcs_lows, lcs_drop', lcs_0, lcs_1, lcs_2, lcs_3, lcs_4, lcs_5, -Int.natCast_add, hv, hvr, e0, e0', h0, hq1, hq3, csC, cs_drop20]
    rw [WL_code]
    refine closer_c v hvr l k (by omega) hr l.length 0 (by omega) (by omega) (begin18 v k) (ei_begin hvr k) (fun _ w hw _ => by have := cnt_len (k := k) hw; omega) _ ?_ ?_ ?_ ?_ ?_ _ (fun env' h' a6 => ?_)
    all_goals (try (simp [-getElem?_pos, a0, a1]; done))
    simp [-getElem?_pos, a6]
  · simp [-getElem?_pos, a6]
noncomputable abbrev garlandlaw18_LookCloser_F := LookCloser_F
end Go.Proofs.Ytbeocehhclfbiaa.Lite
end
section
set_option maxRecDepth 100000
namespace Go.Proofs.Ytbeocehhclfbiaa.Lite.lookCloser
open Go Go.RowKit Go.ChangeShapes Go.WideShapes Go.ChangeAt Go.Proofs.Ytbeocehhclfbiaa Go.Proofs.Ytbeocehhclfbiaa.Lite
theorem rowsV_ty {rows : List (List Dat)} (h : Ty (.sl viewTy) (.sl rows)) : ∃ l : List VW, rows = rowsV l := by
  cases h with
  | sl _ _ hl h1 h2 =>
    clear hl
    induction rows with
    | nil => exact ⟨[], rfl⟩
    | cons a rs ih =>
      obtain ⟨l, rfl⟩ := ih (fun row hr => h1 row (by simp [hr])) (fun row hr => h2 row (by simp [hr]))
      obtain ⟨x, rfl⟩ := op_view (tyL_of (h1 a (by simp)) (h2 a (by simp)))
      exact ⟨x :: l, rfl⟩
theorem open_VS {H : Type} {enc : TypeId × Value → H} {P : Program} {w : World} {r : Reach} {base : Nat} {spare : Nat → Bool} {held : Bool} {t : TypeId} {v : Value} {d : DataW H} {ps : List MemPlace} (ht : isSl P t = true) (hf : flatTy P 6 t = some [.sl viewTy])
    (hv : Value.okWide P w r base t v) (h : DataW.Trod enc P w 0 spare held t v d ps) : ∃ l : List VW, DVRel (Sall w) w (.s (.sl (rowsV l))) v := by
  obtain ⟨rows, h1, h2⟩ := open_sl ht hf hv h
  obtain ⟨l, rfl⟩ := rowsV_ty h2
  exact ⟨l, h1⟩
theorem lifted (os : Os) (started : os.Started) (H : Type) (enc : TypeId × Value → H) :
    ReturnsInHanded {} Try.checked os 10 .any (Rows.lookCloserSpec.pre6 enc Try.prog Try.f10 Rows.lookCloserRow.domain false) (Rows.lookCloserSpec.post enc Try.prog Try.f10 false true false false) := by
  refine returnsInHanded_of_change_sized (C := Try.checked) own started (by kernel_rfl) Try.func10
    (ChangeSpec.witness6 (enc := enc) (C := Try.checked) false ⟨#[], #[.slice none 0 0, .int .i64 0, .int .i64 0], []⟩ 8 (by kernel_rfl) (by kernel_rfl) (by kernel_rfl) (by kernel_rfl)) ?_
  intro W base args ds gs before hval0 hW hcnd hsz0 _
  have hval : ∀ (j : Nat) t v, Try.f10.params[j]? = some t → args[j]? = some v → Value.okWide Try.prog W .any base t v := hval0
  have hW' := hW
  obtain ⟨p, q, hA0, hV, rfl, hfz, hnd⟩ := hW
  have hA : DataW.TrodAll enc Try.prog W 0 (fun _ => true) true Try.f10.params.toList args.toList ds p := hA0
  rw [Try.params10] at hA hval
  obtain ⟨v0, vs0, d0, ds0, p0, q0, hargs, rfl, rfl, h0, r0⟩ := trodAll_cons hA
  obtain ⟨v1, vs1, d1, ds1, p1, q1, rfl, rfl, rfl, h1, r1⟩ := trodAll_cons r0
  obtain ⟨v2, vs2, d2, ds2, p2, q2, rfl, rfl, rfl, h2, r2⟩ := trodAll_cons r1
  obtain ⟨rfl, rfl, rfl⟩ := trodAll_nil r2
  obtain rfl : args = #[v0, v1, v2] := by cases args; simp_all
  obtain ⟨rfl, rfl⟩ := trodVars_none hV
  obtain ⟨x0, e0⟩ := open_VS (by kernel_rfl) (by kernel_rfl) (hval 0 _ v0 rfl rfl) h0
  obtain ⟨x1, e1, _⟩ := open_I (by kernel_rfl) (hval 1 _ v1 rfl rfl) h1
  obtain ⟨x2, e2, _⟩ := open_I (by kernel_rfl) (hval 2 _ v2 rfl rfl) h2
  clear hA0 hval0 hsz0
  refine (law_holds garlandlaw18_LookCloser (orcOf_const (x := (x0, x1, x2)) (by first | trivial | assumption)) rfl (rel_cons e0 (rel_cons e1 (rel_cons e2 rel_nil)))).mono fun e W' ⟨he, bel⟩ => ?_
  subst he
  exact ⟨_, rfl, _, _, _, [], _, [], hW', trodAll_mk1 (shut_bool (by kernel_rfl) _), (trodAll_cons_mk (back (by kernel_rfl) (of_decide_eq_true (by kernel_rfl)) h0 bel) (trodAll_cons_mk (back (by kernel_rfl) (of_decide_eq_true (by kernel_rfl)) h1 bel) (trodAll_cons_mk (back (by kernel_rfl) (of_decide_eq_true (by kernel_rfl)) h2 bel) trodAll_mk0))), rfl, bel.frame _, fun h => by cases h⟩
theorem over : Rows.lookCloserRow.holds Try.pinned (OpenSpec.ofChange Rows.lookCloserSpec) :=
  OpenClaim.holds_of_wide 10 Try.f10 rfl rfl rfl rfl rfl rfl rfl ⟨rfl, rfl, rfl, rfl, rfl⟩ rfl rfl rfl rfl rfl (by kernel_rfl) Try.func10 (by kernel_rfl)
    (of_decide_eq_true (by kernel_rfl)) (by unfold Func.isWrapper; first | (rw [if_pos (by decide +kernel)]; kernel_rfl) | (rw [if_neg (by decide +kernel)]; exact ⟨rfl, rfl⟩))
    (fun os started H enc _ => lifted os started H enc)
theorem proved : Rows.LookCloserSaid := over
end Go.Proofs.Ytbeocehhclfbiaa.Lite.lookCloser
namespace Go.Proofs.Ytbeocehhclfbiaa
/-- The row. -/
theorem lookCloser_holds : Rows.LookCloserSaid := Lite.lookCloser.proved
#print axioms lookCloser_holds
end Go.Proofs.Ytbeocehhclfbiaa
end
