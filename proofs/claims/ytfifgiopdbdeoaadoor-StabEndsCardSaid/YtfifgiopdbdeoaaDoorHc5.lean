/- A part of the proof of: StabEnds: whatever the view, what is told one behind the other: the law is true, and its arguments stay as they were; the card ties stab.phases to the text. No condition but the card own. -/
import Derived.Test.YtfifgiopdbdeoaaDoorProg
import Derived.KernelRfl
import Derived.Test.YtfifgiopdbdeoaaDoorHc4
set_option linter.unusedSimpArgs false
set_option linter.unusedVariables false
namespace Go.Proofs.YtfifgiopdbdeoaaDoor.Lite
open Go Go.RowKit

def W (T : Tbl) (rd : Rd) (c : CCode) (env : Env) (st : St) (Q : Ex → Env → St → Prop) : Prop := ∃ n e env' st', evCode T n rd c env st = some (e, env', st') ∧ Q e env' st'
def WS (T : Tbl) (rd : Rd) (keep : List Nat) (whole c : CCode) (env : Env) (st : St) (Q : Ex → Env → St → Prop) : Prop := ∃ n e env' st', evScope T n rd keep whole c env st = some (e, env', st') ∧ Q e env' st'
def WC (T : Tbl) (rd : Rd) (fv : AV) (args : List AV) (st : St) (Q : AV → St → Prop) : Prop := ∃ n v st', evCall T n rd fv args st = some (v, st') ∧ Q v st'
def WO (T : Tbl) (rd : Rd) (ops : List COp) (env : Env) (st : St) (Q : Env → St → Prop) : Prop := ∃ n env' st', evOps (evCall T n rd) rd.wp ops env st = some (env', st') ∧ Q env' st'
def WP (T : Tbl) (rd : Rd) (h0 : Heap) (wp p : Nat) (ops : List COp) (env : Env) (h : Heap) (pd : List (Option Ex)) (Q : Env → Heap → Prop) : Prop := ∃ n env' h', evPre (evCall T n rd) (fun _ => h0) wp p ops env h pd = some (env', h') ∧ Q env' h'

section
variable {T : Tbl} {rd : Rd} {env : Env} {st : St} {Q : Ex → Env → St → Prop}

theorem W.mono {c : CCode} {Q' : Ex → Env → St → Prop} (h : W T rd c env st Q) (hq : ∀ e env st, Q e env st → Q' e env st) : W T rd c env st Q' := by
  obtain ⟨n, e, env', st', h1, h2⟩ := h; exact ⟨n, e, env', st', h1, hq _ _ _ h2⟩
theorem WC.mono {fv : AV} {args : List AV} {Q Q' : AV → St → Prop} (h : WC T rd fv args st Q) (hq : ∀ v st, Q v st → Q' v st) : WC T rd fv args st Q' := by
  obtain ⟨n, v, st', h1, h2⟩ := h; exact ⟨n, v, st', h1, hq _ _ h2⟩
theorem WO.mono {ops : List COp} {Q Q' : Env → St → Prop} (h : WO T rd ops env st Q) (hq : ∀ v st, Q v st → Q' v st) : WO T rd ops env st Q' := by
  obtain ⟨n, v, st', h1, h2⟩ := h; exact ⟨n, v, st', h1, hq _ _ h2⟩
theorem WS.mono {keep : List Nat} {w c : CCode} {Q' : Ex → Env → St → Prop} (h : WS T rd keep w c env st Q) (hq : ∀ e env st, Q e env st → Q' e env st) : WS T rd keep w c env st Q' := by
  obtain ⟨n, e, env', st', h1, h2⟩ := h; exact ⟨n, e, env', st', h1, hq _ _ _ h2⟩

theorem W_skip : W T rd .skip env st Q ↔ Q .nm env st :=
  ⟨fun ⟨n, e, env', st', h, q⟩ => by cases n <;> simp only [evCode, reduceCtorEq] at h; cases h; exact q, fun q => ⟨1, _, _, _, rfl, q⟩⟩
theorem W_label {l : Nat} : W T rd (.label l) env st Q ↔ Q .nm env st :=
  ⟨fun ⟨n, e, env', st', h, q⟩ => by cases n <;> simp only [evCode, reduceCtorEq] at h; cases h; exact q, fun q => ⟨1, _, _, _, rfl, q⟩⟩
theorem W_exit {l : Nat} : W T rd (.exit l) env st Q ↔ Q (.ex l) env st :=
  ⟨fun ⟨n, e, env', st', h, q⟩ => by cases n <;> simp only [evCode, reduceCtorEq] at h; cases h; exact q, fun q => ⟨1, _, _, _, rfl, q⟩⟩
theorem W_goto {l : Nat} : W T rd (.goto l) env st Q ↔ Q (.gt l) env st :=
  ⟨fun ⟨n, e, env', st', h, q⟩ => by cases n <;> simp only [evCode, reduceCtorEq] at h; cases h; exact q, fun q => ⟨1, _, _, _, rfl, q⟩⟩
theorem W_ret : W T rd .ret env st Q ↔ Q .rt env st :=
  ⟨fun ⟨n, e, env', st', h, q⟩ => by cases n <;> simp only [evCode, reduceCtorEq] at h; cases h; exact q, fun q => ⟨1, _, _, _, rfl, q⟩⟩

/-- what comes behind, if it is come to -/
def onNm (K : Env → St → Prop) (Q : Ex → Env → St → Prop) : Ex → Env → St → Prop
  | .nm, env, st => K env st
  | e, env, st => Q e env st
def onEx (id : Nat) (Q : Ex → Env → St → Prop) : Ex → Env → St → Prop
  | .ex id', env, st => if id' = id then Q .nm env st else Q (.ex id') env st
  | e, env, st => Q e env st

theorem W_seq {a b : CCode} : W T rd (.seq a b) env st Q ↔ W T rd a env st (onNm (fun env st => W T rd b env st Q) Q) := by
  constructor
  · rintro ⟨n, e, env', st', h, q⟩
    cases n with
    | zero => simp [evCode] at h
    | succ n =>
      rw [evCode] at h
      split at h
      · rename_i env1 st1 h1
        exact ⟨n, _, _, _, h1, n, _, _, _, h, q⟩
      · rename_i hne
        refine ⟨n, _, _, _, h, ?_⟩
        cases e with
        | nm => exact absurd h (hne env' st')
        | _ => exact q
  · rintro ⟨n, e, env1, st1, h1, q⟩
    cases e with
    | nm =>
      obtain ⟨m, e, env', st', h2, q⟩ := q
      refine ⟨max n m + 1, e, env', st', ?_, q⟩
      rw [evCode, code_mono (Nat.le_max_left n m) h1]
      exact code_mono (Nat.le_max_right n m) h2
    | _ => exact ⟨n + 1, _, _, _, by rw [evCode, h1], q⟩

def WB (x : Option AV) (A B : Prop) : Prop := match x with
  | some (.d (.bool t)) => if t = true then A else B
  | _ => False

theorem W_cond {x : X} {a b : CCode} : W T rd (.cond x a b) env st Q ↔ WB (evX env x) (W T rd a env st Q) (W T rd b env st Q) := by
  constructor
  · rintro ⟨n, e, env', st', h, q⟩
    cases n with
    | zero => simp [evCode] at h
    | succ n =>
      rw [evCode] at h
      split at h
      · rename_i t ht
        simp only [WB, ht]
        cases t
        · exact ⟨n, _, _, _, h, q⟩
        · exact ⟨n, _, _, _, h, q⟩
      · cases h
  · intro h
    unfold WB at h
    split at h
    · rename_i t ht
      cases t
      · obtain ⟨n, e, env', st', h1, q⟩ := h
        exact ⟨n + 1, e, env', st', by rw [evCode, ht]; exact h1, q⟩
      · obtain ⟨n, e, env', st', h1, q⟩ := h
        exact ⟨n + 1, e, env', st', by rw [evCode, ht]; exact h1, q⟩
    · exact h.elim

theorem W_block {id : Nat} {b : CCode} : W T rd (.block id b) env st Q ↔ W T rd b env st (onEx id Q) := by
  constructor
  · rintro ⟨n, e, env', st', h, q⟩
    cases n with
    | zero => simp [evCode] at h
    | succ n =>
      rw [evCode] at h
      split at h
      · rename_i id' env1 st1 h1
        refine ⟨n, _, _, _, h1, ?_⟩
        simp only [onEx]
        split at h
        · rename_i e; cases h; rw [if_pos e]; exact q
        · rename_i e; cases h; rw [if_neg e]; exact q
      · rename_i hne
        refine ⟨n, _, _, _, h, ?_⟩
        cases e with
        | ex id' => exact absurd h (hne id' env' st')
        | _ => exact q
  · rintro ⟨n, e, env1, st1, h1, q⟩
    cases e with
    | ex id' =>
      simp only [onEx] at q
      split at q
      · rename_i e; exact ⟨n + 1, _, _, _, by rw [evCode, h1]; simp only [if_pos e], q⟩
      · rename_i e; exact ⟨n + 1, _, _, _, by rw [evCode, h1]; simp only [if_neg e], q⟩
    | _ => exact ⟨n + 1, _, _, _, by rw [evCode, h1], q⟩

theorem W_loop {keep : List Nat} {b : CCode} : W T rd (.loop keep b) env st Q ↔
    W T rd b env st (onNm (fun env' st' => W T rd (.loop keep b) (restrict keep env') { st' with h := gc st.h.length rd.lp.length ((restrict keep env').map (·.2)) st'.h } Q) Q) := by
  constructor
  · rintro ⟨n, e, env', st', h, q⟩
    cases n with
    | zero => simp [evCode] at h
    | succ n =>
      rw [evCode] at h
      split at h
      · rename_i env1 st1 h1
        exact ⟨n, _, _, _, h1, n, _, _, _, h, q⟩
      · rename_i hne
        refine ⟨n, _, _, _, h, ?_⟩
        cases e with
        | nm => exact absurd h (hne env' st')
        | _ => exact q
  · rintro ⟨n, e, env1, st1, h1, q⟩
    cases e with
    | nm =>
      obtain ⟨m, e, env', st', h2, q⟩ := q
      refine ⟨max n m + 1, e, env', st', ?_, q⟩
      rw [evCode, code_mono (Nat.le_max_left n m) h1]
      exact code_mono (Nat.le_max_right n m) h2
    | _ => exact ⟨n + 1, _, _, _, by rw [evCode, h1], q⟩

theorem W_scope {keep : List Nat} {b : CCode} : W T rd (.scope keep b) env st Q ↔ WS T rd keep b b env st Q := by
  constructor
  · rintro ⟨n, e, env', st', h, q⟩
    cases n with
    | zero => simp [evCode] at h
    | succ n => rw [evCode] at h; exact ⟨n, _, _, _, h, q⟩
  · rintro ⟨n, e, env', st', h, q⟩
    exact ⟨n + 1, _, _, _, by rw [evCode]; exact h, q⟩

def onGt (T : Tbl) (rd : Rd) (keep : List Nat) (whole : CCode) (st : St) (Q : Ex → Env → St → Prop) : Ex → Env → St → Prop
  | .gt l, env', st' => match findL whole l with
    | some rest => WS T rd keep whole rest (restrict keep env') { st' with h := gc st.h.length rd.lp.length ((restrict keep env').map (·.2)) st'.h } Q
    | none => Q (.gt l) env' st'
  | e, env, st => Q e env st

theorem WS_iff {keep : List Nat} {whole c : CCode} : WS T rd keep whole c env st Q ↔ W T rd c env st (onGt T rd keep whole st Q) := by
  constructor
  · rintro ⟨n, e, env', st', h, q⟩
    cases n with
    | zero => simp [evScope] at h
    | succ n =>
      rw [evScope] at h
      split at h
      · rename_i l env1 st1 h1
        refine ⟨n, _, _, _, h1, ?_⟩
        simp only [onGt]
        split at h
        · rename_i rest hr; simp only [hr]; exact ⟨n, _, _, _, h, q⟩
        · rename_i hr; cases h; simp only [hr]; exact q
      · rename_i hne
        refine ⟨n, _, _, _, h, ?_⟩
        cases e with
        | gt l => exact absurd h (hne l env' st')
        | _ => exact q
  · rintro ⟨n, e, env1, st1, h1, q⟩
    cases e with
    | gt l =>
      simp only [onGt] at q
      split at q
      · rename_i rest hr
        obtain ⟨m, e, env', st', h2, q⟩ := q
        refine ⟨max n m + 1, e, env', st', ?_, q⟩
        rw [evScope, code_mono (Nat.le_max_left n m) h1]
        simp only [hr]
        exact scope_mono (Nat.le_max_right n m) h2
      · rename_i hr
        exact ⟨n + 1, _, _, _, by rw [evScope, h1]; simp only [hr], q⟩
    | _ => exact ⟨n + 1, _, _, _, by rw [evScope, h1], q⟩

def WR (T : Tbl) (rd : Rd) (x : Option AV) (ps : List Nat) (asg b : CCode) (env : Env) (st : St) (Q : Ex → Env → St → Prop) : Prop := match x with
  | some (.fn g caps) => WC T { rd with lp := rd.lp ++ [some { ps, asg, body := b, env }] } (.fn g caps) [.yld rd.lp.length] { st with pd := st.pd ++ [none] } (fun _ st' =>
      st'.h.all (lowObj st'.h.length rd.lp.length) = true ∧ match st'.pd[rd.lp.length]? with
        | some q => Q (q.getD .nm) env { st' with pd := st'.pd.take rd.lp.length }
        | none => False)
  | _ => False

theorem W_range {f : X} {ps : List Nat} {asg b : CCode} : W T rd (.range f ps asg b) env st Q ↔ WR T rd (evX env f) ps asg b env st Q := by
  constructor
  · rintro ⟨n, e, env', st', h, q⟩
    cases n with
    | zero => simp [evCode] at h
    | succ n =>
      rw [evCode] at h
      split at h
      · rename_i g caps hx
        split at h
        · rename_i v st1 h1
          simp only [WR, hx]
          refine ⟨n, _, _, h1, ?_⟩
          split at h
          · rename_i hl
            refine ⟨hl, ?_⟩
            split at h
            · rename_i hq; cases h; simp only [hq]; exact q
            · rename_i hq; cases h; simp only [hq]; exact q
            · cases h
          · cases h
        · cases h
      · cases h
  · intro h
    unfold WR at h
    split at h
    · rename_i g caps hx
      obtain ⟨n, v, st1, h1, hl, h2⟩ := h
      split at h2
      · rename_i q hq
        refine ⟨n + 1, _, _, _, ?_, h2⟩
        rw [evCode, hx]
        simp only [h1, if_pos hl, hq]
        cases q <;> rfl
      · exact h2.elim
    · exact h.elim

theorem W_reg {ops : List COp} : W T rd (.reg ops) env st Q ↔ WO T rd ops env st (fun env st => Q .nm env st) := by
  constructor
  · rintro ⟨n, e, env', st', h, q⟩
    cases n with
    | zero => simp [evCode] at h
    | succ n =>
      rw [evCode] at h
      split at h
      · rename_i env1 st1 h1; cases h; exact ⟨n, _, _, h1, q⟩
      · cases h
  · rintro ⟨n, env', st', h, q⟩
    exact ⟨n + 1, _, _, _, by rw [evCode, h], q⟩

theorem W_dreg {pre suf : List COp} : W T rd (.dreg pre suf) env st Q ↔
    WP T { lp := rd.lp.map fun _ => none, wp := st.h.length } st.h rd.wp 0 pre env st.h st.pd (fun env' h' => WO T rd suf env' { st with h := padH h' (st.h.length + pre.length) } (fun env st => Q .nm env st)) := by
  constructor
  · rintro ⟨n, e, env', st', h, q⟩
    cases n with
    | zero => simp [evCode] at h
    | succ n =>
      rw [evCode] at h
      split at h
      · rename_i env1 h1' h1
        split at h
        · rename_i env2 st2 h2
          cases h; exact ⟨n, _, _, h1, n, _, _, h2, q⟩
        · cases h
      · cases h
  · rintro ⟨n, env1, h1', h1, m, env2, st2, h2, q⟩
    refine ⟨max n m + 1, _, _, _, ?_, q⟩
    rw [evCode, evPre_mono (call_mono (Nat.le_max_left n m)) h1]
    simp only
    rw [evOps_mono (call_mono (Nat.le_max_right n m)) h2]

theorem evPre_heap {call : Caller} {hP hQ : Nat → Heap} {wp : Nat} {pd : List (Option Ex)} : ∀ (os : List COp) (p : Nat) (env : Env) (h : Heap), (∀ i, p ≤ i → hP i = hQ i) → evPre call hP wp p os env h pd = evPre call hQ wp p os env h pd
  | [], _, _, _, _ => rfl
  | o :: os, p, env, h, hh => by
    simp only [evPre, hh p (Nat.le_refl _)]
    split
    · rename_i v h' _
      exact evPre_heap os (p + 1) _ _ fun i hi => hh i (by omega)
    · rfl

theorem W_sregG {er : List Nat} {f : Bool} {pre suf : List COp} : W T rd (.sreg er f pre suf) env st Q ↔
    ∃ n env' h', evPre (evCall T n { lp := rd.lp.map fun _ => none, wp := st.h.length }) (hideF f st.h (eraseB env er st.h)) rd.wp 0 pre env st.h st.pd = some (env', h') ∧ WO T rd suf env' { st with h := padH h' (st.h.length + pre.length) } (fun env st => Q .nm env st) := by
  constructor
  · rintro ⟨n, e, env', st', h, q⟩
    cases n with
    | zero => simp [evCode] at h
    | succ n =>
      rw [evCode] at h
      split at h
      · rename_i env1 h1' h1
        split at h
        · rename_i env2 st2 h2
          cases h; exact ⟨n, _, _, h1, n, _, _, h2, q⟩
        · cases h
      · cases h
  · rintro ⟨n, env1, h1', h1, m, env2, st2, h2, q⟩
    refine ⟨max n m + 1, _, _, _, ?_, q⟩
    rw [evCode, evPre_mono (call_mono (Nat.le_max_left n m)) h1]
    simp only
    rw [evOps_mono (call_mono (Nat.le_max_right n m)) h2]

theorem W_sreg {er : List Nat} {pre suf : List COp} : W T rd (.sreg er false pre suf) env st Q ↔
    WP T { lp := rd.lp.map fun _ => none, wp := st.h.length } (eraseB env er st.h) rd.wp 0 pre env st.h st.pd (fun env' h' => WO T rd suf env' { st with h := padH h' (st.h.length + pre.length) } (fun env st => Q .nm env st)) := by
  rw [W_sregG]
  have : hideF false st.h (eraseB env er st.h) = fun _ => eraseB env er st.h := by funext i; simp [hideF]
  rw [this]
  exact Iff.rfl

/-- the first one reads all -/
theorem W_sregT {er : List Nat} {o : COp} {pre suf : List COp} : W T rd (.sreg er true (o :: pre) suf) env st Q ↔
    ∃ n v h1, preStep (evCall T n { lp := rd.lp.map fun _ => none, wp := st.h.length }) st.h rd.wp 0 o env st.h st.pd = some (v, h1) ∧
      WP T { lp := rd.lp.map fun _ => none, wp := st.h.length } (eraseB env er st.h) rd.wp 1 pre (putE env o.dst v) h1 st.pd (fun env' h' => WO T rd suf env' { st with h := padH h' (st.h.length + (pre.length + 1)) } (fun env st => Q .nm env st)) := by
  rw [W_sregG]
  have e0 : hideF true st.h (eraseB env er st.h) 0 = st.h := rfl
  have e1 : ∀ i, 1 ≤ i → hideF true st.h (eraseB env er st.h) i = (fun _ => eraseB env er st.h) i := fun i hi => by
    have : ¬ i = 0 := by omega
    simp [hideF, this]
  constructor
  · rintro ⟨n, env', h', he, q⟩
    simp only [evPre, e0] at he
    split at he
    · rename_i v h1 hs
      exact ⟨n, v, h1, hs, n, env', h', by rw [← evPre_heap _ _ _ _ e1]; exact he, q⟩
    · cases he
  · rintro ⟨n, v, h1, hs, m, env', h', he, q⟩
    refine ⟨max n m, env', h', ?_, q⟩
    simp only [evPre, e0, preStep_mono (call_mono (Nat.le_max_left n m)) hs]
    rw [evPre_heap _ _ _ _ e1]
    exact evPre_mono (call_mono (Nat.le_max_right n m)) he

/-! ### Operations -/
def WK (T : Tbl) (rd : Rd) (k : K) (env : Env) (st : St) (R : AV → St → Prop) : Prop := match k with
  | .call f args => (match evX env f, evXs env args with
    | some fv, some vs => WC T rd fv vs st R
    | _, _ => False)
  | k => match stepK env st.h st.h st.h.length rd.wp k with
    | some (v, h) => R v { st with h := h }
    | none => False

def WG (g : Option Bool) (A : Prop) (B : Prop) : Prop := match g with
  | some b => if b = true then A else B
  | none => False

theorem WO_nil {R : Env → St → Prop} : WO T rd [] env st R ↔ R env st :=
  ⟨fun ⟨n, env', st', h, q⟩ => by simp only [evOps, Option.some.injEq, Prod.mk.injEq] at h; obtain ⟨rfl, rfl⟩ := h; exact q, fun q => ⟨0, _, _, rfl, q⟩⟩

theorem WO_cons {o : COp} {os : List COp} {R : Env → St → Prop} : WO T rd (o :: os) env st R ↔
    WG (wants env o.g) (WK T rd o.k env st (fun v st' => WO T rd os (putE env o.dst v) st' R)) (WO T rd os (putE env o.dst (.tup [])) st R) := by
  constructor
  · rintro ⟨n, env', st', h, q⟩
    simp only [evOps] at h
    split at h
    · rename_i env1 st1 h1
      unfold evOp at h1
      cases hw : wants env o.g with
      | none => rw [hw] at h1; cases h1
      | some b =>
        rw [hw] at h1
        cases b with
        | false => cases h1; exact ⟨n, _, _, h, q⟩
        | true =>
          show WK T rd o.k env st _
          cases hk : o.k
          case call f args =>
            rw [hk] at h1
            simp only at h1
            cases h2 : evX env f with
            | none => rw [h2] at h1; cases h1
            | some fv =>
              cases h3 : evXs env args with
              | none => rw [h2, h3] at h1; cases h1
              | some vs =>
                rw [h2, h3] at h1
                simp only at h1
                simp only [WK, h2, h3]
                split at h1
                · rename_i v st2 h4
                  cases h1
                  exact ⟨n, _, _, h4, n, _, _, h, q⟩
                · cases h1
          all_goals
            rw [hk] at h1
            simp only at h1
            unfold WK
            simp only
            split at h1
            · rename_i v h2 h3
              cases h1
              try simp only [h3]
              exact ⟨n, _, _, h, q⟩
            · cases h1
    · cases h
  · intro h
    unfold WG at h
    split at h
    · rename_i b hb
      cases b with
      | false =>
        simp only [Bool.false_eq_true, if_false] at h
        obtain ⟨n, env', st', h1, q⟩ := h
        exact ⟨n, env', st', by simp only [evOps, evOp, hb]; exact h1, q⟩
      | true =>
        simp only [if_true] at h
        cases hk : o.k
        case call f args =>
          rw [hk] at h
          simp only [WK] at h
          split at h
          · rename_i fv vs h2 h3
            obtain ⟨n, v, st1, h4, m, env', st', h5, q⟩ := h
            refine ⟨max n m, env', st', ?_, q⟩
            simp only [evOps, evOp, hb, hk, h2, h3, call_mono (Nat.le_max_left n m) _ _ _ _ h4]
            exact evOps_mono (call_mono (Nat.le_max_right n m)) h5
          · exact h.elim
        all_goals
          rw [hk] at h
          unfold WK at h
          simp only at h
          split at h
          · rename_i v h2 h3
            obtain ⟨n, env', st', h1, q⟩ := h
            refine ⟨n, env', st', ?_, q⟩
            simp only [evOps, evOp, hb, hk, h3]
            exact h1
          · exact h.elim
    · exact h.elim

def WPK (T : Tbl) (rd : Rd) (h0 : Heap) (wp p : Nat) (k : K) (env : Env) (h : Heap) (pd : List (Option Ex)) (R : AV → Heap → Prop) : Prop := match k with
  | .call f args => (match evX env f, evXs env args with
    | some fv, some vs => (fv :: vs.map (frz h0.length)).all (AV.lows h0.length pd.length) = true ∧ WC T rd fv (vs.map (frz h0.length)) { h := h0.map hideT, pd := pd } (fun v st' => match cutR h0.length pd.length v st'.h with | some v' => R v' h | none => False)
    | _, _ => False)
  | .nw _ => False
  | .st n x y => match preSt env h0 h (h0.length + p) wp n x y with
    | some (v, h) => R v h
    | none => False
  | k => match stepK env h0 h (h0.length + p) wp k with
    | some (v, h) => R v h
    | none => False

theorem WP_nil {h0 h : Heap} {wp p : Nat} {pd : List (Option Ex)} {R : Env → Heap → Prop} : WP T rd h0 wp p [] env h pd R ↔ R env h :=
  ⟨fun ⟨n, env', st', h, q⟩ => by simp only [evPre, Option.some.injEq, Prod.mk.injEq] at h; obtain ⟨rfl, rfl⟩ := h; exact q, fun q => ⟨0, _, _, rfl, q⟩⟩

theorem WP_cons {h0 h : Heap} {wp p : Nat} {pd : List (Option Ex)} {o : COp} {os : List COp} {R : Env → Heap → Prop} : WP T rd h0 wp p (o :: os) env h pd R ↔
    WG (wants env o.g) (WPK T rd h0 wp p o.k env h pd (fun v h' => WP T rd h0 wp (p + 1) os (putE env o.dst v) h' pd R)) (WP T rd h0 wp (p + 1) os (putE env o.dst (.tup [])) h pd R) := by
  constructor
  · rintro ⟨n, env', h', he, q⟩
    simp only [evPre] at he
    split at he
    · rename_i v h1 hs
      unfold preStep at hs
      cases hw : wants env o.g with
      | none => rw [hw] at hs; cases hs
      | some b =>
        rw [hw] at hs
        cases b with
        | false => cases hs; exact ⟨n, _, _, he, q⟩
        | true =>
          simp only [WG, if_true]
          cases hk : o.k
          case call f args =>
            rw [hk] at hs
            simp only at hs
            cases h2 : evX env f with
            | none => rw [h2] at hs; cases hs
            | some fv =>
              cases h3 : evXs env args with
              | none => rw [h2, h3] at hs; cases hs
              | some vs =>
                rw [h2, h3] at hs
                simp only at hs
                simp only [WPK, h2, h3]
                split at hs
                · rename_i hl
                  split at hs
                  · rename_i v' st2 h4
                    split at hs
                    · rename_i v2 hn
                      cases hs
                      exact ⟨hl, n, _, _, h4, by simp only [hn]; exact ⟨n, _, _, he, q⟩⟩
                    · cases hs
                  · cases hs
                · cases hs
          case nw q' =>
            rw [hk] at hs
            simp only at hs
            cases hs
          all_goals
            rw [hk] at hs
            simp only at hs
            unfold WPK
            simp only [hs]
            exact ⟨n, _, _, he, q⟩
    · cases he
  · intro hh
    unfold WG at hh
    split at hh
    · rename_i b hb
      cases b with
      | false =>
        simp only [Bool.false_eq_true, if_false] at hh
        obtain ⟨n, env', h', h1, q⟩ := hh
        exact ⟨n, env', h', by simp only [evPre, preStep, hb]; exact h1, q⟩
      | true =>
        simp only [if_true] at hh
        cases hk : o.k
        case call f args =>
          rw [hk] at hh
          simp only [WPK] at hh
          split at hh
          · rename_i fv vs h2 h3
            obtain ⟨hl, n, v, st1, h4, hn⟩ := hh
            split at hn
            · rename_i v2 hcut
              obtain ⟨m, env', h', h5, q⟩ := hn
              refine ⟨max n m, env', h', ?_, q⟩
              simp only [evPre, preStep, hb, hk, h2, h3, call_mono (Nat.le_max_left n m) _ _ _ _ h4, if_pos hl, hcut]
              exact evPre_mono (call_mono (Nat.le_max_right n m)) h5
            · exact hn.elim
          · exact hh.elim
        case nw q' =>
          rw [hk] at hh
          exact hh.elim
        all_goals
          rw [hk] at hh
          unfold WPK at hh
          simp only at hh
          split at hh
          · rename_i v h2 h3
            obtain ⟨n, env', h', h1, q⟩ := hh
            refine ⟨n, env', h', ?_, q⟩
            simp only [evPre, preStep, hb, hk, h3]
            exact h1
          · exact hh.elim
    · exact hh.elim
end

/-! ### Calls -/
section
variable {T : Tbl} {rd : Rd} {st : St} {R : AV → St → Prop}

def WCd (T : Tbl) (rd : Rd) (f : Nat) (caps args : List AV) (st : St) (R : AV → St → Prop) (cf : CFun) : Prop :=
  (args ++ caps).length = cf.np ∧ W T rd cf.body (argEnv 0 (args ++ caps)) st (fun e env st' => (match e with | .nm | .rt => True | _ => False) ∧
    match evRes env st'.h cf.res with
    | some vs => R (oneOf vs) { st' with h := gc st.h.length rd.lp.length vs st'.h }
    | none => False)

theorem refine_rf {f : Nat} {caps args : List AV} {cf : CFun} (hc : T.code f = some cf) (hrf : cf.rf = false) : refine? T (.fn f caps) args = false := by
  unfold refine?
  split
  · rename_i heq; cases heq; simp only [hc, hrf, Bool.and_false]
  · rfl
theorem refine_orc {f : Nat} {caps args : List AV} {F : List DV → Option (List DV)} (ho : T.orc f = some F) : refine? T (.fn f caps) args = false := by
  unfold refine?
  split
  · rename_i heq; cases heq; simp only [ho, Option.isNone_some, Bool.and_false, Bool.false_and]
  · rfl
theorem refine_emp {f : Nat} {caps : List AV} {b : Bool} : refine? T (.fn f caps) [.emp b] = false := by
  cases caps <;> simp [refine?, AV.isE]

/-- A call whose code is carried out. -/
theorem WC_code' {f : Nat} {caps args : List AV} {cf : CFun} (ho : T.orc f = none) (hc : T.code f = some cf) (hrq : refine? T (.fn f caps) args = false) : WC T rd (.fn f caps) args st R ↔ WCd T rd f caps args st R cf := by
  constructor
  · rintro ⟨n, v, st', h, q⟩
    cases n with
    | zero => simp [evCall] at h
    | succ n =>
      simp only [evCall, hrq, cond_false, ho, hc] at h
      split at h
      · rename_i hl
        split at h
        · rename_i e env st1 h1
          refine ⟨hl, n, e, env, st1, h1, ?_⟩
          split at h
          · split at h
            · rename_i vs hv; cases h; exact ⟨trivial, by simp only [hv]; exact q⟩
            · cases h
          · split at h
            · rename_i vs hv; cases h; exact ⟨trivial, by simp only [hv]; exact q⟩
            · cases h
          · cases h
        · cases h
      · cases h
  · rintro ⟨hl, n, e, env, st1, h1, he, hq⟩
    split at hq
    · rename_i vs hv
      refine ⟨n + 1, _, _, ?_, hq⟩
      simp only [evCall, hrq, cond_false, ho, hc, if_pos hl, h1]
      cases e <;> first | exact he.elim | simp only [hv]
    · exact hq.elim

theorem WC_code {f : Nat} {caps args : List AV} {cf : CFun} (ho : T.orc f = none) (hc : T.code f = some cf) (hrf : cf.rf = false := by rfl) : WC T rd (.fn f caps) args st R ↔ WCd T rd f caps args st R cf :=
  WC_code' ho hc (refine_rf hc hrf)

/-- An empty argument, told apart by whether it is nil: both ways the same comes out. -/
theorem WC_ref {f : Nat} {cf : CFun} {x : AV} (ho : T.orc f = none) (hc : T.code f = some cf) (hrf : cf.rf = true) (hE : x.isE = true)
    (h1 : WC T { lp := rd.lp.map fun _ => none, wp := st.h.length } (.fn f []) [.emp true] st (fun v s => v = .nils ∧ s.h.length = st.h.length))
    (h2 : WC T { lp := rd.lp.map fun _ => none, wp := st.h.length } (.fn f []) [.emp false] st (fun v s => v = .nils ∧ s.h.length = st.h.length)) (q : R .nils st) : WC T rd (.fn f []) [x] st R := by
  obtain ⟨n, _, s1, e1, rfl, l1⟩ := h1
  obtain ⟨m, _, s2, e2, rfl, l2⟩ := h2
  have hrq : refine? T (.fn f []) [x] = true := by simp only [refine?, hE, ho, hc, hrf, Option.isNone_none, Bool.and_self]
  refine ⟨max n m + 1, _, _, ?_, q⟩
  rw [evCall, hrq, cond_true, call_mono (Nat.le_max_left n m) _ _ _ _ e1, call_mono (Nat.le_max_right n m) _ _ _ _ e2]
  simp only [l1, l2, and_self, if_true]

/-- A call of a function known by its contract. -/
theorem WC_orc {f : Nat} {F : List DV → Option (List DV)} {args : List AV} (ho : T.orc f = some F) {dvs rs : List DV} (hd : toDVs st.h args = some dvs) (hF : F dvs = some rs) (ht : (!args.any AV.tied || rs.all DV.flat) = true)
    (q : R (oneOf (rs.map DV.av)) st) : WC T rd (.fn f []) args st R :=
  ⟨1, _, _, by simp only [evCall, refine_orc ho, cond_false, ho, hd, hF, if_pos ht], q⟩

theorem WC_yld {i : Nat} {args : List AV} {r : LRec} (hi : rd.lp[i]? = some (some r)) (hp : st.pd[i]? = some none) (hl : args.length = r.ps.length)
    (h : W T { rd with lp := rd.lp.set i none } r.asg (bindPs r.ps args r.env) st (fun e env st1 => e = .nm ∧ W T { rd with lp := rd.lp.set i none } r.body env st1 (fun e _ st2 =>
      match e with
      | .nm => R (.d (.bool true)) { st2 with h := gc st.h.length rd.lp.length [] st2.h }
      | e => R (.d (.bool false)) { h := gc st.h.length rd.lp.length [] st2.h, pd := st2.pd.set i (some e) }))) : WC T rd (.yld i) args st R := by
  obtain ⟨n, e, env, st1, h1, rfl, m, e2, env2, st2, h2, q⟩ := h
  have h1' := code_mono (Nat.le_max_left n m) h1
  have h2' := code_mono (Nat.le_max_right n m) h2
  cases e2 with
  | nm => exact ⟨max n m + 1, _, _, by simp only [evCall, refine?, cond_false, hi, hp, if_pos hl, h1', h2'], q⟩
  | ex id => exact ⟨max n m + 1, _, _, by simp only [evCall, refine?, cond_false, hi, hp, if_pos hl, h1', h2'], q⟩
  | gt l => exact ⟨max n m + 1, _, _, by simp only [evCall, refine?, cond_false, hi, hp, if_pos hl, h1', h2'], q⟩
  | rt => exact ⟨max n m + 1, _, _, by simp only [evCall, refine?, cond_false, hi, hp, if_pos hl, h1', h2'], q⟩
end

/-! ### A contract -/
def outs (h : Heap) : AV → Option (List DV)
  | .tup xs => if xs.length = 1 then none else toDVs h xs
  | x => (toDV h x).map fun d => [d]

theorem pure_of {P : Program} {T : Tbl} (hT : TblOK P T) {f : Nat} {cf : CFun} (ho : T.orc f = none) (hc : T.code f = some cf) {F : List DV → Option (List DV)}
    (h : ∀ dvs rs, F dvs = some rs → WC T ⟨[], 0⟩ (.fn f []) (dvs.map DV.av) ⟨[], []⟩ (fun x st' => outs st'.h x = some rs)) : Pure P f F := by
  obtain ⟨_, _, _, _, _, _, _, _, hent⟩ := chkFun_enter (hT.code f cf ho hc)
  refine ⟨hent, fun S w args dvs rs hF hz ha hS hG => ?_⟩
  obtain ⟨n, x, st', hev, hout⟩ := h dvs rs hF
  let c : Cx := ⟨0, 0, S, fun _ => .no, fun _ => 0, fun _ => ⟨.ready, none, 0, #[], #[], .skip, .skip, 0⟩, w⟩
  have hs : StRel P c ⟨[], []⟩ [] := by
    refine ⟨⟨fun l cs h => ?_, fun t e n h => ?_, fun l es h => ?_, fun l l' o o' b h => ?_, hS, hG⟩, rfl, rfl, fun i r h => by simp at h, fun i hi => absurd hi (Nat.not_lt_zero _), fun i j hi => absurd hi (Nat.not_lt_zero _)⟩ <;> simp [getO] at h
  have hno : ∀ b, ¬ Own c ([] : Heap) [] b := by
    rintro b (⟨l, o, h, _⟩ | ⟨i, r, h, _⟩)
    · simp [getO] at h
    · simp at h
  have hgo := (all_sound hT n).2.2.2 _ _ _ _ _ _ hev c (.func (.func f) #[] #[]) args hs rfl (Nat.zero_le _) (.fn (by simp) (fun j x v hx => by simp at hx)) (by simpa using hz) (fun j y v hy hv => by
    rw [List.getElem?_map] at hy
    cases hq : dvs[j]? with
    | none => rw [hq] at hy; cases hy
    | some d => rw [hq] at hy; cases hy; exact DVRel.av (c := c) (ha j d v hq hv))
  rcases hgo with ⟨g, arr, h1, _, h3⟩ | ⟨_, _, _, _, _, h1, _⟩
  · cases h1
    rw [Array.append_empty] at h3
    refine h3.mono ?_
    rintro e w' ⟨v, rfl, c', rfl, n1, s1, x1, hv⟩
    refine ⟨v, fun b o => c'.S b o ∨ (OwnH c' st'.h b ∧ ∃ u, c'.w.cell? ⟨b, o, none⟩ = some u), rfl, ?_, ?_⟩
    · refine ⟨fun b o h => .inl (x1.keeps.sub b o h), fun b o h => ?_, fun b hb => x1.blk b hb (hno b), x1.size, x1.os, x1.tape, x1.output, fun b o h => ?_⟩
      · rcases h with h | ⟨h, _⟩
        · rcases x1.sx b o h with h | h | h
          · exact .inl h
          · exact absurd h (hno b)
          · exact .inr h
        · rcases x1.own b (.inl h) with h | h
          · exact absurd h (hno b)
          · exact .inr h
      · rcases h with h | ⟨_, h⟩
        · exact s1.h.stb b o h
        · exact h
    · have gen : ∀ {y : AV} {u : Value} {d : DV}, VRel c' y u → toDV st'.h y = some d → DVRel (fun b o => c'.S b o ∨ (OwnH c' st'.h b ∧ ∃ u, c'.w.cell? ⟨b, o, none⟩ = some u)) c'.w d u := fun hy hd =>
        (toDV_gen s1.h (fun b o h => .inl h) (fun b o u h1 h2 => .inr ⟨h1, u, h2⟩) hy hd).1
      unfold outs at hout
      split at hout
      · rename_i xs
        split at hout
        · cases hout
        · rename_i hl
          obtain ⟨g1, g2⟩ := toDVs_get hout
          obtain ⟨arr, rfl, hz', hr⟩ := hv.inv_tup
          refine .inr ⟨by rw [← g1]; exact hl, arr, rfl, by rw [hz', g1], fun j d u hd hu => ?_⟩
          obtain ⟨y, hy, hyd⟩ := g2 j d hd
          exact gen (hr j y u hy hu) hyd
      · obtain ⟨d, hd, rfl⟩ := map_some_inv hout
        exact .inl ⟨d, rfl, gen hv hd⟩
  · cases h1
end Go.Proofs.YtfifgiopdbdeoaaDoor.Lite
namespace Go.Proofs.YtfifgiopdbdeoaaDoor.Lite
open Go Go.RowKit

inductive Fr where
  | code (c : CCode)
  | blk (id : Nat)

section
variable {T : Tbl} {rd : Rd} {env : Env} {st : St} {Q : Ex → Env → St → Prop}

def contF (T : Tbl) (rd : Rd) : List Fr → (Ex → Env → St → Prop) → Ex → Env → St → Prop
  | [], Q => Q
  | .code c :: fs, Q => onNm (fun env st => W T rd c env st (contF T rd fs Q)) (contF T rd fs Q)
  | .blk id :: fs, Q => onEx id (contF T rd fs Q)

/-- what is yet to be carried out -/
def WL (T : Tbl) (rd : Rd) (fs : List Fr) (env : Env) (st : St) (Q : Ex → Env → St → Prop) : Prop := contF T rd fs Q .nm env st
/-- a jump on its way -/
def WJ (T : Tbl) (rd : Rd) (e : Ex) (fs : List Fr) (env : Env) (st : St) (Q : Ex → Env → St → Prop) : Prop := contF T rd fs Q e env st
def WLO (T : Tbl) (rd : Rd) (os : List COp) (fs : List Fr) (env : Env) (st : St) (Q : Ex → Env → St → Prop) : Prop := WO T rd os env st (fun env st => contF T rd fs Q .nm env st)
def WLV (T : Tbl) (rd : Rd) (g : Option Bool) (r : Option (AV × Heap)) (dst : Option Nat) (os : List COp) (fs : List Fr) (env : Env) (pd : List (Option Ex)) (st : St) (Q : Ex → Env → St → Prop) : Prop :=
  WG g (match r with | some (v, h) => WLO T rd os fs (putE env dst v) ⟨h, pd⟩ Q | none => False) (WLO T rd os fs (putE env dst (.tup [])) st Q)
def WLC (T : Tbl) (rd : Rd) (g : Option Bool) (fv : Option AV) (args : Option (List AV)) (dst : Option Nat) (os : List COp) (fs : List Fr) (env : Env) (st : St) (Q : Ex → Env → St → Prop) : Prop :=
  WG g (match fv, args with | some fv, some vs => WC T rd fv vs st (fun v st' => WLO T rd os fs (putE env dst v) st' Q) | _, _ => False) (WLO T rd os fs (putE env dst (.tup [])) st Q)
def WLB (T : Tbl) (rd : Rd) (x : Option AV) (a b : CCode) (fs : List Fr) (env : Env) (st : St) (Q : Ex → Env → St → Prop) : Prop :=
  WB x (WL T rd (.code a :: fs) env st Q) (WL T rd (.code b :: fs) env st Q)

theorem WL_of {c : CCode} : W T rd c env st Q ↔ WL T rd [.code c] env st Q := Iff.rfl
theorem WL_nil : WL T rd [] env st Q ↔ Q .nm env st := Iff.rfl
theorem WL_blk {id : Nat} {fs : List Fr} : WL T rd (.blk id :: fs) env st Q ↔ WL T rd fs env st Q := Iff.rfl
theorem WL_skip {fs : List Fr} : WL T rd (.code .skip :: fs) env st Q ↔ WL T rd fs env st Q := W_skip
theorem WL_label {l : Nat} {fs : List Fr} : WL T rd (.code (.label l) :: fs) env st Q ↔ WL T rd fs env st Q := W_label
theorem WL_exit {l : Nat} {fs : List Fr} : WL T rd (.code (.exit l) :: fs) env st Q ↔ WJ T rd (.ex l) fs env st Q := W_exit
theorem WL_goto {l : Nat} {fs : List Fr} : WL T rd (.code (.goto l) :: fs) env st Q ↔ WJ T rd (.gt l) fs env st Q := W_goto
theorem WL_ret {fs : List Fr} : WL T rd (.code .ret :: fs) env st Q ↔ WJ T rd .rt fs env st Q := W_ret
theorem WL_seq {a b : CCode} {fs : List Fr} : WL T rd (.code (.seq a b) :: fs) env st Q ↔ WL T rd (.code a :: .code b :: fs) env st Q := W_seq
theorem WL_block {id : Nat} {b : CCode} {fs : List Fr} : WL T rd (.code (.block id b) :: fs) env st Q ↔ WL T rd (.code b :: .blk id :: fs) env st Q := W_block
theorem WL_cond {x : X} {a b : CCode} {fs : List Fr} : WL T rd (.code (.cond x a b) :: fs) env st Q ↔ WLB T rd (evX env x) a b fs env st Q := W_cond
theorem WL_reg {os : List COp} {fs : List Fr} : WL T rd (.code (.reg os) :: fs) env st Q ↔ WLO T rd os fs env st Q := W_reg

theorem WJ_nil {e : Ex} : WJ T rd e [] env st Q ↔ Q e env st := Iff.rfl
theorem WJ_ex {l : Nat} {c : CCode} {fs : List Fr} : WJ T rd (.ex l) (.code c :: fs) env st Q ↔ WJ T rd (.ex l) fs env st Q := Iff.rfl
theorem WJ_gt {l : Nat} {c : CCode} {fs : List Fr} : WJ T rd (.gt l) (.code c :: fs) env st Q ↔ WJ T rd (.gt l) fs env st Q := Iff.rfl
theorem WJ_rt {c : CCode} {fs : List Fr} : WJ T rd .rt (.code c :: fs) env st Q ↔ WJ T rd .rt fs env st Q := Iff.rfl
theorem WJ_exb {l id : Nat} {fs : List Fr} : WJ T rd (.ex l) (.blk id :: fs) env st Q ↔ if l = id then WL T rd fs env st Q else WJ T rd (.ex l) fs env st Q := Iff.rfl
theorem WJ_gtb {l id : Nat} {fs : List Fr} : WJ T rd (.gt l) (.blk id :: fs) env st Q ↔ WJ T rd (.gt l) fs env st Q := Iff.rfl
theorem WJ_rtb {id : Nat} {fs : List Fr} : WJ T rd .rt (.blk id :: fs) env st Q ↔ WJ T rd .rt fs env st Q := Iff.rfl

theorem WLO_nil {fs : List Fr} : WLO T rd [] fs env st Q ↔ WL T rd fs env st Q := WO_nil

def K.isCall : K → Bool
  | .call _ _ => true
  | _ => false
theorem WLO_step {dst : Option Nat} {k : K} {g : Option (Nat × Bool)} {os : List COp} {fs : List Fr} {h : Heap} {pd : List (Option Ex)} (hk : k.isCall = false) : WLO T rd (⟨dst, k, g⟩ :: os) fs env ⟨h, pd⟩ Q ↔
    WLV T rd (wants env g) (stepK env h h h.length rd.wp k) dst os fs env pd ⟨h, pd⟩ Q := by
  unfold WLO WLV
  rw [WO_cons]
  cases k <;> first | exact Iff.rfl | cases hk
section
variable {dst : Option Nat} {g : Option (Nat × Bool)} {os : List COp} {fs : List Fr} {h : Heap} {pd : List (Option Ex)}
theorem WO_nw {a0} : WLO T rd (⟨dst, .nw a0, g⟩ :: os) fs env ⟨h, pd⟩ Q ↔ WLV T rd (wants env g) (stepK env h h h.length rd.wp (.nw a0)) dst os fs env pd ⟨h, pd⟩ Q := WLO_step rfl
theorem WO_mv {a0} : WLO T rd (⟨dst, .mv a0, g⟩ :: os) fs env ⟨h, pd⟩ Q ↔ WLV T rd (wants env g) (stepK env h h h.length rd.wp (.mv a0)) dst os fs env pd ⟨h, pd⟩ Q := WLO_step rfl
theorem WO_pick {a0} {a1} {a2} : WLO T rd (⟨dst, .pick a0 a1 a2, g⟩ :: os) fs env ⟨h, pd⟩ Q ↔ WLV T rd (wants env g) (stepK env h h h.length rd.wp (.pick a0 a1 a2)) dst os fs env pd ⟨h, pd⟩ Q := WLO_step rfl
theorem WO_new {a0} : WLO T rd (⟨dst, .new a0, g⟩ :: os) fs env ⟨h, pd⟩ Q ↔ WLV T rd (wants env g) (stepK env h h h.length rd.wp (.new a0)) dst os fs env pd ⟨h, pd⟩ Q := WLO_step rfl
theorem WO_box {a0} : WLO T rd (⟨dst, .box a0, g⟩ :: os) fs env ⟨h, pd⟩ Q ↔ WLV T rd (wants env g) (stepK env h h h.length rd.wp (.box a0)) dst os fs env pd ⟨h, pd⟩ Q := WLO_step rfl
theorem WO_ld {a0} : WLO T rd (⟨dst, .ld a0, g⟩ :: os) fs env ⟨h, pd⟩ Q ↔ WLV T rd (wants env g) (stepK env h h h.length rd.wp (.ld a0)) dst os fs env pd ⟨h, pd⟩ Q := WLO_step rfl
theorem WO_ldn {a0} {a1} : WLO T rd (⟨dst, .ldn a0 a1, g⟩ :: os) fs env ⟨h, pd⟩ Q ↔ WLV T rd (wants env g) (stepK env h h h.length rd.wp (.ldn a0 a1)) dst os fs env pd ⟨h, pd⟩ Q := WLO_step rfl
theorem WO_st {a0} {a1} {a2} : WLO T rd (⟨dst, .st a0 a1 a2, g⟩ :: os) fs env ⟨h, pd⟩ Q ↔ WLV T rd (wants env g) (stepK env h h h.length rd.wp (.st a0 a1 a2)) dst os fs env pd ⟨h, pd⟩ Q := WLO_step rfl
theorem WO_off {a0} {a1} : WLO T rd (⟨dst, .off a0 a1, g⟩ :: os) fs env ⟨h, pd⟩ Q ↔ WLV T rd (wants env g) (stepK env h h h.length rd.wp (.off a0 a1)) dst os fs env pd ⟨h, pd⟩ Q := WLO_step rfl
theorem WO_ixa {a0} {a1} {a2} {a3} : WLO T rd (⟨dst, .ixa a0 a1 a2 a3, g⟩ :: os) fs env ⟨h, pd⟩ Q ↔ WLV T rd (wants env g) (stepK env h h h.length rd.wp (.ixa a0 a1 a2 a3)) dst os fs env pd ⟨h, pd⟩ Q := WLO_step rfl
theorem WO_ixs {a0} {a1} {a2} : WLO T rd (⟨dst, .ixs a0 a1 a2, g⟩ :: os) fs env ⟨h, pd⟩ Q ↔ WLV T rd (wants env g) (stepK env h h h.length rd.wp (.ixs a0 a1 a2)) dst os fs env pd ⟨h, pd⟩ Q := WLO_step rfl
theorem WO_fld {a0} {a1} : WLO T rd (⟨dst, .fld a0 a1, g⟩ :: os) fs env ⟨h, pd⟩ Q ↔ WLV T rd (wants env g) (stepK env h h h.length rd.wp (.fld a0 a1)) dst os fs env pd ⟨h, pd⟩ Q := WLO_step rfl
theorem WO_fldn {a0} {a1} {a2} : WLO T rd (⟨dst, .fldn a0 a1 a2, g⟩ :: os) fs env ⟨h, pd⟩ Q ↔ WLV T rd (wants env g) (stepK env h h h.length rd.wp (.fldn a0 a1 a2)) dst os fs env pd ⟨h, pd⟩ Q := WLO_step rfl
theorem WO_ixv {a0} {a1} {a2} : WLO T rd (⟨dst, .ixv a0 a1 a2, g⟩ :: os) fs env ⟨h, pd⟩ Q ↔ WLV T rd (wants env g) (stepK env h h h.length rd.wp (.ixv a0 a1 a2)) dst os fs env pd ⟨h, pd⟩ Q := WLO_step rfl
theorem WO_ixvn {a0} {a1} {a2} {a3} : WLO T rd (⟨dst, .ixvn a0 a1 a2 a3, g⟩ :: os) fs env ⟨h, pd⟩ Q ↔ WLV T rd (wants env g) (stepK env h h h.length rd.wp (.ixvn a0 a1 a2 a3)) dst os fs env pd ⟨h, pd⟩ Q := WLO_step rfl
theorem WO_ixb {a0} {a1} : WLO T rd (⟨dst, .ixb a0 a1, g⟩ :: os) fs env ⟨h, pd⟩ Q ↔ WLV T rd (wants env g) (stepK env h h h.length rd.wp (.ixb a0 a1)) dst os fs env pd ⟨h, pd⟩ Q := WLO_step rfl
theorem WO_bin {a0} {a1} {a2} : WLO T rd (⟨dst, .bin a0 a1 a2, g⟩ :: os) fs env ⟨h, pd⟩ Q ↔ WLV T rd (wants env g) (stepK env h h h.length rd.wp (.bin a0 a1 a2)) dst os fs env pd ⟨h, pd⟩ Q := WLO_step rfl
theorem WO_eqb {a0} {a1} {a2} : WLO T rd (⟨dst, .eqb a0 a1 a2, g⟩ :: os) fs env ⟨h, pd⟩ Q ↔ WLV T rd (wants env g) (stepK env h h h.length rd.wp (.eqb a0 a1 a2)) dst os fs env pd ⟨h, pd⟩ Q := WLO_step rfl
theorem WO_isn {a0} {a1} {a2} : WLO T rd (⟨dst, .isn a0 a1 a2, g⟩ :: os) fs env ⟨h, pd⟩ Q ↔ WLV T rd (wants env g) (stepK env h h h.length rd.wp (.isn a0 a1 a2)) dst os fs env pd ⟨h, pd⟩ Q := WLO_step rfl
theorem WO_eqs {a0} {a1} {a2} {a3} : WLO T rd (⟨dst, .eqs a0 a1 a2 a3, g⟩ :: os) fs env ⟨h, pd⟩ Q ↔ WLV T rd (wants env g) (stepK env h h h.length rd.wp (.eqs a0 a1 a2 a3)) dst os fs env pd ⟨h, pd⟩ Q := WLO_step rfl
theorem WO_not {a0} : WLO T rd (⟨dst, .not a0, g⟩ :: os) fs env ⟨h, pd⟩ Q ↔ WLV T rd (wants env g) (stepK env h h h.length rd.wp (.not a0)) dst os fs env pd ⟨h, pd⟩ Q := WLO_step rfl
theorem WO_conv {a0} {a1} : WLO T rd (⟨dst, .conv a0 a1, g⟩ :: os) fs env ⟨h, pd⟩ Q ↔ WLV T rd (wants env g) (stepK env h h h.length rd.wp (.conv a0 a1)) dst os fs env pd ⟨h, pd⟩ Q := WLO_step rfl
theorem WO_mkf {a0} {a1} : WLO T rd (⟨dst, .mkf a0 a1, g⟩ :: os) fs env ⟨h, pd⟩ Q ↔ WLV T rd (wants env g) (stepK env h h h.length rd.wp (.mkf a0 a1)) dst os fs env pd ⟨h, pd⟩ Q := WLO_step rfl
theorem WO_bld {a0} {a1} : WLO T rd (⟨dst, .bld a0 a1, g⟩ :: os) fs env ⟨h, pd⟩ Q ↔ WLV T rd (wants env g) (stepK env h h h.length rd.wp (.bld a0 a1)) dst os fs env pd ⟨h, pd⟩ Q := WLO_step rfl
theorem WO_bls {a0} {a1} {a2} {a3} : WLO T rd (⟨dst, .bls a0 a1 a2 a3, g⟩ :: os) fs env ⟨h, pd⟩ Q ↔ WLV T rd (wants env g) (stepK env h h h.length rd.wp (.bls a0 a1 a2 a3)) dst os fs env pd ⟨h, pd⟩ Q := WLO_step rfl
theorem WO_sla {a0} {a1} {a2} {a3} {a4} : WLO T rd (⟨dst, .sla a0 a1 a2 a3 a4, g⟩ :: os) fs env ⟨h, pd⟩ Q ↔ WLV T rd (wants env g) (stepK env h h h.length rd.wp (.sla a0 a1 a2 a3 a4)) dst os fs env pd ⟨h, pd⟩ Q := WLO_step rfl
theorem WO_sls {a0} {a1} {a2} {a3} : WLO T rd (⟨dst, .sls a0 a1 a2 a3, g⟩ :: os) fs env ⟨h, pd⟩ Q ↔ WLV T rd (wants env g) (stepK env h h h.length rd.wp (.sls a0 a1 a2 a3)) dst os fs env pd ⟨h, pd⟩ Q := WLO_step rfl
theorem WO_sl0 {a0} : WLO T rd (⟨dst, .sl0 a0, g⟩ :: os) fs env ⟨h, pd⟩ Q ↔ WLV T rd (wants env g) (stepK env h h h.length rd.wp (.sl0 a0)) dst os fs env pd ⟨h, pd⟩ Q := WLO_step rfl
theorem WO_len {a0} {a1} : WLO T rd (⟨dst, .len a0 a1, g⟩ :: os) fs env ⟨h, pd⟩ Q ↔ WLV T rd (wants env g) (stepK env h h h.length rd.wp (.len a0 a1)) dst os fs env pd ⟨h, pd⟩ Q := WLO_step rfl
theorem WO_app {a0} {a1} {a2} : WLO T rd (⟨dst, .app a0 a1 a2, g⟩ :: os) fs env ⟨h, pd⟩ Q ↔ WLV T rd (wants env g) (stepK env h h h.length rd.wp (.app a0 a1 a2)) dst os fs env pd ⟨h, pd⟩ Q := WLO_step rfl
theorem WO_mnx {a0} {a1} {a2} : WLO T rd (⟨dst, .mnx a0 a1 a2, g⟩ :: os) fs env ⟨h, pd⟩ Q ↔ WLV T rd (wants env g) (stepK env h h h.length rd.wp (.mnx a0 a1 a2)) dst os fs env pd ⟨h, pd⟩ Q := WLO_step rfl
theorem WO_ext {a0} {a1} : WLO T rd (⟨dst, .ext a0 a1, g⟩ :: os) fs env ⟨h, pd⟩ Q ↔ WLV T rd (wants env g) (stepK env h h h.length rd.wp (.ext a0 a1)) dst os fs env pd ⟨h, pd⟩ Q := WLO_step rfl
theorem WO_nilc {a0} : WLO T rd (⟨dst, .nilc a0, g⟩ :: os) fs env ⟨h, pd⟩ Q ↔ WLV T rd (wants env g) (stepK env h h h.length rd.wp (.nilc a0)) dst os fs env pd ⟨h, pd⟩ Q := WLO_step rfl
end
theorem WLO_call {dst : Option Nat} {f : X} {args : List X} {g : Option (Nat × Bool)} {os : List COp} {fs : List Fr} : WLO T rd (⟨dst, .call f args, g⟩ :: os) fs env st Q ↔ WLC T rd (wants env g) (evX env f) (evXs env args) dst os fs env st Q := by
  unfold WLO WLC
  rw [WO_cons]
  exact Iff.rfl

theorem WG_true {A B : Prop} : WG (some true) A B ↔ A := Iff.rfl
theorem WG_false {A B : Prop} : WG (some false) A B ↔ B := by simp [WG]
theorem WG_split {b : Bool} {A B : Prop} (h1 : b = true → A) (h2 : b = false → B) : WG (some b) A B := by
  cases b
  · exact WG_false.2 (h2 rfl)
  · exact WG_true.2 (h1 rfl)

section
variable {dst : Option Nat} {os : List COp} {fs : List Fr} {pd : List (Option Ex)}
theorem WLV_true {v : AV} {h : Heap} : WLV T rd (some true) (some (v, h)) dst os fs env pd st Q ↔ WLO T rd os fs (putE env dst v) ⟨h, pd⟩ Q := Iff.rfl
theorem WLV_false {r : Option (AV × Heap)} : WLV T rd (some false) r dst os fs env pd st Q ↔ WLO T rd os fs (putE env dst (.tup [])) st Q := WG_false
theorem WLV_split {b : Bool} {r : Option (AV × Heap)} (h1 : b = true → WLV T rd (some true) r dst os fs env pd st Q) (h2 : b = false → WLO T rd os fs (putE env dst (.tup [])) st Q) : WLV T rd (some b) r dst os fs env pd st Q := by
  cases b
  · exact WLV_false.2 (h2 rfl)
  · exact h1 rfl
theorem WLV_splitN {b : Bool} {r : Option (AV × Heap)} (h1 : b = false → WLV T rd (some true) r dst os fs env pd st Q) (h2 : b = true → WLO T rd os fs (putE env dst (.tup [])) st Q) : WLV T rd (some (!b)) r dst os fs env pd st Q := by
  cases b
  · exact h1 rfl
  · exact WLV_false.2 (h2 rfl)
theorem WLC_false {fv : Option AV} {args : Option (List AV)} : WLC T rd (some false) fv args dst os fs env st Q ↔ WLO T rd os fs (putE env dst (.tup [])) st Q := WG_false
theorem WLC_split {b : Bool} {fv : Option AV} {args : Option (List AV)} (h1 : b = true → WLC T rd (some true) fv args dst os fs env st Q) (h2 : b = false → WLO T rd os fs (putE env dst (.tup [])) st Q) : WLC T rd (some b) fv args dst os fs env st Q := by
  cases b
  · exact WLC_false.2 (h2 rfl)
  · exact h1 rfl
theorem WLC_splitN {b : Bool} {fv : Option AV} {args : Option (List AV)} (h1 : b = false → WLC T rd (some true) fv args dst os fs env st Q) (h2 : b = true → WLO T rd os fs (putE env dst (.tup [])) st Q) : WLC T rd (some (!b)) fv args dst os fs env st Q := by
  cases b
  · exact h1 rfl
  · exact WLC_false.2 (h2 rfl)
theorem WLC_true {fv : AV} {vs : List AV} : WLC T rd (some true) (some fv) (some vs) dst os fs env st Q ↔ WC T rd fv vs st (fun v st' => WLO T rd os fs (putE env dst v) st' Q) := Iff.rfl
theorem WLB_true {a b : CCode} : WLB T rd (some (.d (.bool true))) a b fs env st Q ↔ WL T rd (.code a :: fs) env st Q := by simp [WLB, WB]
theorem WLB_false {a b : CCode} : WLB T rd (some (.d (.bool false))) a b fs env st Q ↔ WL T rd (.code b :: fs) env st Q := by simp [WLB, WB]
theorem WLB_split {t : Bool} {a b : CCode} (h1 : t = true → WL T rd (.code a :: fs) env st Q) (h2 : t = false → WL T rd (.code b :: fs) env st Q) : WLB T rd (some (.d (.bool t))) a b fs env st Q := by
  cases t
  · exact WLB_false.2 (h2 rfl)
  · exact WLB_true.2 (h1 rfl)

theorem WLB_splitN {t : Bool} {a b : CCode} (h1 : t = false → WL T rd (.code a :: fs) env st Q) (h2 : t = true → WL T rd (.code b :: fs) env st Q) : WLB T rd (some (.d (.bool (!t)))) a b fs env st Q := by
  cases t
  · exact WLB_true.2 (h1 rfl)
  · exact WLB_false.2 (h2 rfl)

/-- A call of a function known by its contract. -/
theorem WLC_orc {f : Nat} {F : List DV → Option (List DV)} {args : List AV} (ho : T.orc f = some F) {dvs rs : List DV} (hd : toDVs st.h args = some dvs) (hF : F dvs = some rs) (ht : (!args.any AV.tied || rs.all DV.flat) = true) :
    WLC T rd (some true) (some (.fn f [])) (some args) dst os fs env st Q ↔ WLO T rd os fs (putE env dst (oneOf (rs.map DV.av))) st Q := by
  rw [WLC_true]
  constructor
  · rintro ⟨n, v, st', h, q⟩
    cases n with
    | zero => simp [evCall] at h
    | succ n => simp only [evCall, refine_orc ho, cond_false, ho, hd, hF, if_pos ht, Option.some.injEq, Prod.mk.injEq] at h; obtain ⟨rfl, rfl⟩ := h; exact q
  · exact fun q => WC_orc ho hd hF ht q
end

theorem look_put {e : Env} {k t : Nat} {v : AV} : look (putE e (some k) v) t = if k = t then some v else look e t := rfl
theorem look_putN {e : Env} {t : Nat} {v : AV} : look (putE e none v) t = look e t := rfl
theorem look_cons {e : Env} {k t : Nat} {v : AV} : look ((k, v) :: e) t = if k = t then some v else look e t := rfl
theorem look_arg0 {i t : Nat} : look (argEnv i []) t = none := rfl
theorem look_arg {i t : Nat} {v : AV} {vs : List AV} : look (argEnv i (v :: vs)) t = if i = t then some v else look (argEnv (i + 1) vs) t := rfl

theorem evX_t {n : Nat} : evX env (.t n) = look env n := rfl
theorem evX_c {v : AV} : evX env (.c v) = some v := rfl
theorem evXs_nil : evXs env [] = some [] := rfl
theorem evXs_cons {x : X} {xs : List X} : evXs env (x :: xs) = match evX env x, evXs env xs with | some v, some vs => some (v :: vs) | _, _ => none := rfl
theorem wants_none : wants env none = some true := rfl
def wantv (b : Bool) : Option AV → Option Bool
  | some (.d (.bool c)) => some (c == b)
  | some (.tup []) => some false
  | _ => none
theorem wants_some {t : Nat} {b : Bool} : wants env (some (t, b)) = wantv b (look env t) := by
  unfold wants wantv
  rfl
theorem wantv_b {b c : Bool} : wantv b (some (.d (.bool c))) = some (c == b) := rfl
theorem wantv_t {b : Bool} : wantv b (some (.tup [])) = some false := rfl
end
end Go.Proofs.YtfifgiopdbdeoaaDoor.Lite
namespace Go.Proofs.YtfifgiopdbdeoaaDoor.Lite
open Go Go.RowKit

section
variable {T : Tbl} {rd : Rd} {env : Env} {st : St} {Q : Ex → Env → St → Prop}

def WLP (T : Tbl) (rd : Rd) (h0 : Heap) (p : Nat) (os suf : List COp) (m : Nat) (fs : List Fr) (env : Env) (h : Heap) (pd : List (Option Ex)) (Q : Ex → Env → St → Prop) : Prop :=
  WP T { lp := rd.lp.map fun _ => none, wp := h0.length } h0 rd.wp p os env h pd (fun env' h' => WLO T rd suf fs env' ⟨padH h' (h0.length + m), pd⟩ Q)
def WLPV (T : Tbl) (rd : Rd) (h0 : Heap) (p : Nat) (g : Option Bool) (r : Option (AV × Heap)) (dst : Option Nat) (os suf : List COp) (m : Nat) (fs : List Fr) (env : Env) (h : Heap) (pd : List (Option Ex)) (Q : Ex → Env → St → Prop) : Prop :=
  WG g (match r with | some (v, h') => WLP T rd h0 (p + 1) os suf m fs (putE env dst v) h' pd Q | none => False) (WLP T rd h0 (p + 1) os suf m fs (putE env dst (.tup [])) h pd Q)
def WLPC (T : Tbl) (rd : Rd) (h0 : Heap) (p : Nat) (g : Option Bool) (fv : Option AV) (args : Option (List AV)) (dst : Option Nat) (os suf : List COp) (m : Nat) (fs : List Fr) (env : Env) (h : Heap) (pd : List (Option Ex)) (Q : Ex → Env → St → Prop) : Prop :=
  WG g (match fv, args with
    | some fv, some vs => (fv :: vs).all (AV.lows h0.length pd.length) = true ∧ WC T { lp := rd.lp.map fun _ => none, wp := h0.length } fv vs { h := h0.map hideT, pd := pd } (fun v st' => match cutR h0.length pd.length v st'.h with | some v' => WLP T rd h0 (p + 1) os suf m fs (putE env dst v') h pd Q | none => False)
    | _, _ => False) (WLP T rd h0 (p + 1) os suf m fs (putE env dst (.tup [])) h pd Q)

theorem WL_dreg {pre suf : List COp} {fs : List Fr} {h : Heap} {pd : List (Option Ex)} : WL T rd (.code (.dreg pre suf) :: fs) env ⟨h, pd⟩ Q ↔ WLP T rd h 0 pre suf pre.length fs env h pd Q := W_dreg
theorem WL_sreg {er : List Nat} {pre suf : List COp} {fs : List Fr} {h : Heap} {pd : List (Option Ex)} : WL T rd (.code (.sreg er false pre suf) :: fs) env ⟨h, pd⟩ Q ↔ WLP T rd (eraseB env er h) 0 pre suf pre.length fs env h pd Q := by
  unfold WLP
  rw [eraseB_length]
  exact W_sreg
theorem WL_sregT {er : List Nat} {dst : Option Nat} {k : K} {pre suf : List COp} {fs : List Fr} {h : Heap} {pd : List (Option Ex)} (hk : (match k with | .call _ _ => true | .st _ _ _ => true | .nw _ => true | _ => false) = false := by rfl) :
    WL T rd (.code (.sreg er true (⟨dst, k, none⟩ :: pre) suf) :: fs) env ⟨h, pd⟩ Q ↔ match stepK env h h h.length rd.wp k with
      | some (v, h1) => WLP T rd (eraseB env er h) 1 pre suf (pre.length + 1) fs (putE env dst v) h1 pd Q
      | none => False := by
  show W T rd _ env _ _ ↔ _
  rw [W_sregT]
  have e : ∀ call : Caller, preStep call h rd.wp 0 ⟨dst, k, none⟩ env h pd = stepK env h h h.length rd.wp k := by
    intro call
    unfold preStep
    simp only [wants]
    cases k <;> first | rfl | (cases hk; done)
  simp only [e]
  cases hs : stepK env h h h.length rd.wp k with
  | none => simp
  | some r =>
    obtain ⟨v, h1⟩ := r
    unfold WLP
    rw [eraseB_length]
    constructor
    · rintro ⟨n, v', h1', e1, hh⟩
      cases e1; exact hh
    · intro hh; exact ⟨0, v, h1, rfl, hh⟩
section
variable {h0 h : Heap} {p m : Nat} {os suf : List COp} {fs : List Fr} {pd : List (Option Ex)} {dst : Option Nat} {g : Option (Nat × Bool)}
theorem WLP_nil : WLP T rd h0 p [] suf m fs env h pd Q ↔ WLO T rd suf fs env ⟨padH h (h0.length + m), pd⟩ Q := WP_nil
theorem WLP_step {k : K} (hk : k.isCall = false) (hs : (match k with | .st _ _ _ => true | .nw _ => true | _ => false) = false) : WLP T rd h0 p (⟨dst, k, g⟩ :: os) suf m fs env h pd Q ↔ WLPV T rd h0 p (wants env g) (stepK env h0 h (h0.length + p) rd.wp k) dst os suf m fs env h pd Q := by
  unfold WLP WLPV
  rw [WP_cons]
  cases k <;> first | exact Iff.rfl | (cases hk; done) | cases hs
theorem WP_mv {a0} : WLP T rd h0 p (⟨dst, .mv a0, g⟩ :: os) suf m fs env h pd Q ↔ WLPV T rd h0 p (wants env g) (stepK env h0 h (h0.length + p) rd.wp (.mv a0)) dst os suf m fs env h pd Q := WLP_step rfl rfl
theorem WP_pick {a0} {a1} {a2} : WLP T rd h0 p (⟨dst, .pick a0 a1 a2, g⟩ :: os) suf m fs env h pd Q ↔ WLPV T rd h0 p (wants env g) (stepK env h0 h (h0.length + p) rd.wp (.pick a0 a1 a2)) dst os suf m fs env h pd Q := WLP_step rfl rfl
theorem WP_new {a0} : WLP T rd h0 p (⟨dst, .new a0, g⟩ :: os) suf m fs env h pd Q ↔ WLPV T rd h0 p (wants env g) (stepK env h0 h (h0.length + p) rd.wp (.new a0)) dst os suf m fs env h pd Q := WLP_step rfl rfl
theorem WP_box {a0} : WLP T rd h0 p (⟨dst, .box a0, g⟩ :: os) suf m fs env h pd Q ↔ WLPV T rd h0 p (wants env g) (stepK env h0 h (h0.length + p) rd.wp (.box a0)) dst os suf m fs env h pd Q := WLP_step rfl rfl
theorem WP_ld {a0} : WLP T rd h0 p (⟨dst, .ld a0, g⟩ :: os) suf m fs env h pd Q ↔ WLPV T rd h0 p (wants env g) (stepK env h0 h (h0.length + p) rd.wp (.ld a0)) dst os suf m fs env h pd Q := WLP_step rfl rfl
theorem WP_ldn {a0} {a1} : WLP T rd h0 p (⟨dst, .ldn a0 a1, g⟩ :: os) suf m fs env h pd Q ↔ WLPV T rd h0 p (wants env g) (stepK env h0 h (h0.length + p) rd.wp (.ldn a0 a1)) dst os suf m fs env h pd Q := WLP_step rfl rfl
theorem WP_off {a0} {a1} : WLP T rd h0 p (⟨dst, .off a0 a1, g⟩ :: os) suf m fs env h pd Q ↔ WLPV T rd h0 p (wants env g) (stepK env h0 h (h0.length + p) rd.wp (.off a0 a1)) dst os suf m fs env h pd Q := WLP_step rfl rfl
theorem WP_ixa {a0} {a1} {a2} {a3} : WLP T rd h0 p (⟨dst, .ixa a0 a1 a2 a3, g⟩ :: os) suf m fs env h pd Q ↔ WLPV T rd h0 p (wants env g) (stepK env h0 h (h0.length + p) rd.wp (.ixa a0 a1 a2 a3)) dst os suf m fs env h pd Q := WLP_step rfl rfl
theorem WP_ixs {a0} {a1} {a2} : WLP T rd h0 p (⟨dst, .ixs a0 a1 a2, g⟩ :: os) suf m fs env h pd Q ↔ WLPV T rd h0 p (wants env g) (stepK env h0 h (h0.length + p) rd.wp (.ixs a0 a1 a2)) dst os suf m fs env h pd Q := WLP_step rfl rfl
theorem WP_fld {a0} {a1} : WLP T rd h0 p (⟨dst, .fld a0 a1, g⟩ :: os) suf m fs env h pd Q ↔ WLPV T rd h0 p (wants env g) (stepK env h0 h (h0.length + p) rd.wp (.fld a0 a1)) dst os suf m fs env h pd Q := WLP_step rfl rfl
theorem WP_fldn {a0} {a1} {a2} : WLP T rd h0 p (⟨dst, .fldn a0 a1 a2, g⟩ :: os) suf m fs env h pd Q ↔ WLPV T rd h0 p (wants env g) (stepK env h0 h (h0.length + p) rd.wp (.fldn a0 a1 a2)) dst os suf m fs env h pd Q := WLP_step rfl rfl
theorem WP_ixv {a0} {a1} {a2} : WLP T rd h0 p (⟨dst, .ixv a0 a1 a2, g⟩ :: os) suf m fs env h pd Q ↔ WLPV T rd h0 p (wants env g) (stepK env h0 h (h0.length + p) rd.wp (.ixv a0 a1 a2)) dst os suf m fs env h pd Q := WLP_step rfl rfl
theorem WP_ixvn {a0} {a1} {a2} {a3} : WLP T rd h0 p (⟨dst, .ixvn a0 a1 a2 a3, g⟩ :: os) suf m fs env h pd Q ↔ WLPV T rd h0 p (wants env g) (stepK env h0 h (h0.length + p) rd.wp (.ixvn a0 a1 a2 a3)) dst os suf m fs env h pd Q := WLP_step rfl rfl
theorem WP_ixb {a0} {a1} : WLP T rd h0 p (⟨dst, .ixb a0 a1, g⟩ :: os) suf m fs env h pd Q ↔ WLPV T rd h0 p (wants env g) (stepK env h0 h (h0.length + p) rd.wp (.ixb a0 a1)) dst os suf m fs env h pd Q := WLP_step rfl rfl
theorem WP_bin {a0} {a1} {a2} : WLP T rd h0 p (⟨dst, .bin a0 a1 a2, g⟩ :: os) suf m fs env h pd Q ↔ WLPV T rd h0 p (wants env g) (stepK env h0 h (h0.length + p) rd.wp (.bin a0 a1 a2)) dst os suf m fs env h pd Q := WLP_step rfl rfl
theorem WP_eqb {a0} {a1} {a2} : WLP T rd h0 p (⟨dst, .eqb a0 a1 a2, g⟩ :: os) suf m fs env h pd Q ↔ WLPV T rd h0 p (wants env g) (stepK env h0 h (h0.length + p) rd.wp (.eqb a0 a1 a2)) dst os suf m fs env h pd Q := WLP_step rfl rfl
theorem WP_isn {a0} {a1} {a2} : WLP T rd h0 p (⟨dst, .isn a0 a1 a2, g⟩ :: os) suf m fs env h pd Q ↔ WLPV T rd h0 p (wants env g) (stepK env h0 h (h0.length + p) rd.wp (.isn a0 a1 a2)) dst os suf m fs env h pd Q := WLP_step rfl rfl
theorem WP_eqs {a0} {a1} {a2} {a3} : WLP T rd h0 p (⟨dst, .eqs a0 a1 a2 a3, g⟩ :: os) suf m fs env h pd Q ↔ WLPV T rd h0 p (wants env g) (stepK env h0 h (h0.length + p) rd.wp (.eqs a0 a1 a2 a3)) dst os suf m fs env h pd Q := WLP_step rfl rfl
theorem WP_not {a0} : WLP T rd h0 p (⟨dst, .not a0, g⟩ :: os) suf m fs env h pd Q ↔ WLPV T rd h0 p (wants env g) (stepK env h0 h (h0.length + p) rd.wp (.not a0)) dst os suf m fs env h pd Q := WLP_step rfl rfl
theorem WP_conv {a0} {a1} : WLP T rd h0 p (⟨dst, .conv a0 a1, g⟩ :: os) suf m fs env h pd Q ↔ WLPV T rd h0 p (wants env g) (stepK env h0 h (h0.length + p) rd.wp (.conv a0 a1)) dst os suf m fs env h pd Q := WLP_step rfl rfl
theorem WP_mkf {a0} {a1} : WLP T rd h0 p (⟨dst, .mkf a0 a1, g⟩ :: os) suf m fs env h pd Q ↔ WLPV T rd h0 p (wants env g) (stepK env h0 h (h0.length + p) rd.wp (.mkf a0 a1)) dst os suf m fs env h pd Q := WLP_step rfl rfl
theorem WP_bld {a0} {a1} : WLP T rd h0 p (⟨dst, .bld a0 a1, g⟩ :: os) suf m fs env h pd Q ↔ WLPV T rd h0 p (wants env g) (stepK env h0 h (h0.length + p) rd.wp (.bld a0 a1)) dst os suf m fs env h pd Q := WLP_step rfl rfl
theorem WP_bls {a0} {a1} {a2} {a3} : WLP T rd h0 p (⟨dst, .bls a0 a1 a2 a3, g⟩ :: os) suf m fs env h pd Q ↔ WLPV T rd h0 p (wants env g) (stepK env h0 h (h0.length + p) rd.wp (.bls a0 a1 a2 a3)) dst os suf m fs env h pd Q := WLP_step rfl rfl
theorem WP_sla {a0} {a1} {a2} {a3} {a4} : WLP T rd h0 p (⟨dst, .sla a0 a1 a2 a3 a4, g⟩ :: os) suf m fs env h pd Q ↔ WLPV T rd h0 p (wants env g) (stepK env h0 h (h0.length + p) rd.wp (.sla a0 a1 a2 a3 a4)) dst os suf m fs env h pd Q := WLP_step rfl rfl
theorem WP_sls {a0} {a1} {a2} {a3} : WLP T rd h0 p (⟨dst, .sls a0 a1 a2 a3, g⟩ :: os) suf m fs env h pd Q ↔ WLPV T rd h0 p (wants env g) (stepK env h0 h (h0.length + p) rd.wp (.sls a0 a1 a2 a3)) dst os suf m fs env h pd Q := WLP_step rfl rfl
theorem WP_sl0 {a0} : WLP T rd h0 p (⟨dst, .sl0 a0, g⟩ :: os) suf m fs env h pd Q ↔ WLPV T rd h0 p (wants env g) (stepK env h0 h (h0.length + p) rd.wp (.sl0 a0)) dst os suf m fs env h pd Q := WLP_step rfl rfl
theorem WP_len {a0} {a1} : WLP T rd h0 p (⟨dst, .len a0 a1, g⟩ :: os) suf m fs env h pd Q ↔ WLPV T rd h0 p (wants env g) (stepK env h0 h (h0.length + p) rd.wp (.len a0 a1)) dst os suf m fs env h pd Q := WLP_step rfl rfl
theorem WP_app {a0} {a1} {a2} : WLP T rd h0 p (⟨dst, .app a0 a1 a2, g⟩ :: os) suf m fs env h pd Q ↔ WLPV T rd h0 p (wants env g) (stepK env h0 h (h0.length + p) rd.wp (.app a0 a1 a2)) dst os suf m fs env h pd Q := WLP_step rfl rfl
theorem WP_mnx {a0} {a1} {a2} : WLP T rd h0 p (⟨dst, .mnx a0 a1 a2, g⟩ :: os) suf m fs env h pd Q ↔ WLPV T rd h0 p (wants env g) (stepK env h0 h (h0.length + p) rd.wp (.mnx a0 a1 a2)) dst os suf m fs env h pd Q := WLP_step rfl rfl
theorem WP_ext {a0} {a1} : WLP T rd h0 p (⟨dst, .ext a0 a1, g⟩ :: os) suf m fs env h pd Q ↔ WLPV T rd h0 p (wants env g) (stepK env h0 h (h0.length + p) rd.wp (.ext a0 a1)) dst os suf m fs env h pd Q := WLP_step rfl rfl
theorem WP_nilc {a0} : WLP T rd h0 p (⟨dst, .nilc a0, g⟩ :: os) suf m fs env h pd Q ↔ WLPV T rd h0 p (wants env g) (stepK env h0 h (h0.length + p) rd.wp (.nilc a0)) dst os suf m fs env h pd Q := WLP_step rfl rfl
theorem WP_st {a0} {a1} {a2} : WLP T rd h0 p (⟨dst, .st a0 a1 a2, g⟩ :: os) suf m fs env h pd Q ↔ WLPV T rd h0 p (wants env g) (preSt env h0 h (h0.length + p) rd.wp a0 a1 a2) dst os suf m fs env h pd Q := by
  unfold WLP WLPV
  rw [WP_cons]
  exact Iff.rfl
theorem WLP_call {f : X} {args : List X} : WLP T rd h0 p (⟨dst, .call f args, g⟩ :: os) suf m fs env h pd Q ↔ WLPC T rd h0 p (wants env g) (evX env f) ((evXs env args).map (List.map (frz h0.length))) dst os suf m fs env h pd Q := by
  unfold WLP WLPC
  rw [WP_cons]
  simp only [WPK]
  cases evX env f <;> cases evXs env args <;> exact Iff.rfl
theorem WLPV_true {v : AV} {h' : Heap} : WLPV T rd h0 p (some true) (some (v, h')) dst os suf m fs env h pd Q ↔ WLP T rd h0 (p + 1) os suf m fs (putE env dst v) h' pd Q := Iff.rfl
theorem WLPV_false {r : Option (AV × Heap)} : WLPV T rd h0 p (some false) r dst os suf m fs env h pd Q ↔ WLP T rd h0 (p + 1) os suf m fs (putE env dst (.tup [])) h pd Q := WG_false
theorem WLPV_split {b : Bool} {r : Option (AV × Heap)} (h1 : b = true → WLPV T rd h0 p (some true) r dst os suf m fs env h pd Q) (h2 : b = false → WLP T rd h0 (p + 1) os suf m fs (putE env dst (.tup [])) h pd Q) : WLPV T rd h0 p (some b) r dst os suf m fs env h pd Q := by
  cases b
  · exact WLPV_false.2 (h2 rfl)
  · exact h1 rfl
theorem WLPV_splitN {b : Bool} {r : Option (AV × Heap)} (h1 : b = false → WLPV T rd h0 p (some true) r dst os suf m fs env h pd Q) (h2 : b = true → WLP T rd h0 (p + 1) os suf m fs (putE env dst (.tup [])) h pd Q) : WLPV T rd h0 p (some (!b)) r dst os suf m fs env h pd Q := by
  cases b
  · exact h1 rfl
  · exact WLPV_false.2 (h2 rfl)
theorem WLPC_false {fv : Option AV} {args : Option (List AV)} : WLPC T rd h0 p (some false) fv args dst os suf m fs env h pd Q ↔ WLP T rd h0 (p + 1) os suf m fs (putE env dst (.tup [])) h pd Q := WG_false
theorem WLPC_split {b : Bool} {fv : Option AV} {args : Option (List AV)} (h1 : b = true → WLPC T rd h0 p (some true) fv args dst os suf m fs env h pd Q) (h2 : b = false → WLP T rd h0 (p + 1) os suf m fs (putE env dst (.tup [])) h pd Q) : WLPC T rd h0 p (some b) fv args dst os suf m fs env h pd Q := by
  cases b
  · exact WLPC_false.2 (h2 rfl)
  · exact h1 rfl
theorem WLPC_splitN {b : Bool} {fv : Option AV} {args : Option (List AV)} (h1 : b = false → WLPC T rd h0 p (some true) fv args dst os suf m fs env h pd Q) (h2 : b = true → WLP T rd h0 (p + 1) os suf m fs (putE env dst (.tup [])) h pd Q) : WLPC T rd h0 p (some (!b)) fv args dst os suf m fs env h pd Q := by
  cases b
  · exact h1 rfl
  · exact WLPC_false.2 (h2 rfl)
end

/-! ### Calls of functions known by their contracts -/
class Has (T : Tbl) (f : Nat) (F : outParam (List DV → Option (List DV))) : Prop where
  h : T.orc f = some F
/-- what such a function tells of these arguments -/
class Tells (F : List DV → Option (List DV)) (args : List AV) (x : outParam AV) : Prop where
  h : ∃ dvs rs, (∀ h, toDVs h args = some dvs) ∧ F dvs = some rs ∧ x = oneOf (rs.map DV.av) ∧ (!args.any AV.tied || rs.all DV.flat) = true ∧ ∀ N M, args.all (AV.lows N M) = true

theorem WLC_tells {f : Nat} {F : List DV → Option (List DV)} {args : List AV} {x : AV} {dst : Option Nat} {os : List COp} {fs : List Fr} [hT : Has T f F] [hF : Tells F args x] :
    WLC T rd (some true) (some (.fn f [])) (some args) dst os fs env st Q ↔ WLO T rd os fs (putE env dst x) st Q := by
  obtain ⟨dvs, rs, h1, h2, rfl, h4, _⟩ := hF.h
  exact WLC_orc hT.h (h1 _) h2 h4

theorem WLPC_tells {f : Nat} {F : List DV → Option (List DV)} {args : List AV} {x : AV} {dst : Option Nat} {h0 h : Heap} {p m : Nat} {os suf : List COp} {fs : List Fr} {pd : List (Option Ex)} [hT : Has T f F] [hF : Tells F args x] :
    WLPC T rd h0 p (some true) (some (.fn f [])) (some args) dst os suf m fs env h pd Q ↔ WLP T rd h0 (p + 1) os suf m fs (putE env dst x) h pd Q := by
  obtain ⟨dvs, rs, h1, h2, rfl, h4, h5⟩ := hF.h
  constructor
  · rintro ⟨_, n, v, st', he, q⟩
    cases n with
    | zero => simp [evCall] at he
    | succ n => simp only [evCall, refine_orc hT.h, cond_false, hT.h, h1, h2, if_pos h4, Option.some.injEq, Prod.mk.injEq] at he; obtain ⟨rfl, rfl⟩ := he; simpa [cutR] using q
  · intro q
    refine ⟨?_, WC_orc hT.h (h1 _) h2 h4 (by simpa [cutR] using q)⟩
    rw [List.all_cons, h5]; rfl

theorem WL_code {c : CCode} {fs : List Fr} : WL T rd (.code c :: fs) env st Q ↔ W T rd c env st (fun e env st => WJ T rd e fs env st Q) := Iff.rfl
/-- what comes behind a round -/
def afterY (T : Tbl) (rd : Rd) (i : Nat) (dst : Option Nat) (os : List COp) (fs : List Fr) (env : Env) (h : Heap) (Q : Ex → Env → St → Prop) : Ex → Env → St → Prop
  | .nm, _, st2 => WLO T rd os fs (putE env dst (.d (.bool true))) ⟨gc h.length rd.lp.length [] st2.h, st2.pd⟩ Q
  | e, _, st2 => WLO T rd os fs (putE env dst (.d (.bool false))) ⟨gc h.length rd.lp.length [] st2.h, st2.pd.set i (some e)⟩ Q

theorem WLC_yld {i : Nat} {args : List AV} {r : LRec} {h : Heap} {pd : List (Option Ex)} {dst : Option Nat} {os : List COp} {fs : List Fr} (hi : rd.lp[i]? = some (some r)) (hp : pd[i]? = some none) (hl : args.length = r.ps.length)
    (hh : WL T { rd with lp := rd.lp.set i none } [.code r.asg] (bindPs r.ps args r.env) ⟨h, pd⟩ (fun e env1 st1 => e = .nm ∧ WL T { rd with lp := rd.lp.set i none } [.code r.body] env1 st1 (afterY T rd i dst os fs env h Q))) :
    WLC T rd (some true) (some (.yld i)) (some args) dst os fs env ⟨h, pd⟩ Q := by
  rw [WLC_true]
  refine WC_yld hi hp hl (W.mono hh ?_)
  rintro e env1 st1 ⟨he, h2⟩
  refine ⟨he, W.mono h2 ?_⟩
  intro e2 env2 st2 h3
  cases e2 <;> exact h3

/-- what comes behind a call whose code is carried out -/
def afterC (T : Tbl) (rd : Rd) (cf : CFun) (dst : Option Nat) (os : List COp) (fs : List Fr) (env : Env) (h : Heap) (Q : Ex → Env → St → Prop) : Ex → Env → St → Prop := fun e env' st' =>
  (match e with | .nm | .rt => True | _ => False) ∧ match evRes env' st'.h cf.res with
    | some vs => WLO T rd os fs (putE env dst (oneOf vs)) ⟨gc h.length rd.lp.length vs st'.h, st'.pd⟩ Q
    | none => False

theorem WLC_fn {f : Nat} {caps args : List AV} {cf : CFun} {h : Heap} {pd : List (Option Ex)} {dst : Option Nat} {os : List COp} {fs : List Fr} (ho : T.orc f = none) (hc : T.code f = some cf) (hl : (args ++ caps).length = cf.np)
    (hh : WL T rd [.code cf.body] (argEnv 0 (args ++ caps)) ⟨h, pd⟩ (afterC T rd cf dst os fs env h Q)) (hrf : cf.rf = false := by rfl) : WLC T rd (some true) (some (.fn f caps)) (some args) dst os fs env ⟨h, pd⟩ Q := by
  rw [WLC_true, WC_code ho hc hrf]
  refine ⟨hl, W.mono hh ?_⟩
  intro e env' st' h2
  exact h2

/-- what comes behind a call whose code is carried out, in a region that draws its order -/
def afterPC (T : Tbl) (rd : Rd) (h0 : Heap) (p : Nat) (cf : CFun) (dst : Option Nat) (os suf : List COp) (m : Nat) (fs : List Fr) (env : Env) (h : Heap) (pd : List (Option Ex)) (Q : Ex → Env → St → Prop) : Ex → Env → St → Prop := fun e env' st' =>
  (match e with | .nm | .rt => True | _ => False) ∧ match evRes env' st'.h cf.res with
    | some vs => (match cutR h0.length pd.length (oneOf vs) (gc h0.length rd.lp.length vs st'.h) with | some v' => WLP T rd h0 (p + 1) os suf m fs (putE env dst v') h pd Q | none => False)
    | none => False

theorem WLPC_fn {h0 h : Heap} {p m f : Nat} {caps args : List AV} {cf : CFun} {os suf : List COp} {fs : List Fr} {pd : List (Option Ex)} {dst : Option Nat} (ho : T.orc f = none) (hc : T.code f = some cf) (hl : (args ++ caps).length = cf.np)
    (hlow : (AV.fn f caps :: args).all (AV.lows h0.length pd.length) = true) (hh : WL T { lp := rd.lp.map fun _ => none, wp := h0.length } [.code cf.body] (argEnv 0 (args ++ caps)) ⟨h0.map hideT, pd⟩ (afterPC T rd h0 p cf dst os suf m fs env h pd Q)) (hrf : cf.rf = false := by rfl) :
    WLPC T rd h0 p (some true) (some (.fn f caps)) (some args) dst os suf m fs env h pd Q := by
  show _ ∧ WC _ _ _ _ _ _
  refine ⟨hlow, ?_⟩
  rw [WC_code ho hc hrf]
  refine ⟨hl, W.mono hh ?_⟩
  rintro e env' st' ⟨h1, h2⟩
  refine ⟨h1, ?_⟩
  split at h2
  · rename_i vs hv
    simp only [hv, List.length_map]
    exact h2
  · exact h2.elim

/-- what comes behind a range -/
def afterR (T : Tbl) (rd : Rd) (cf : CFun) (fs : List Fr) (env : Env) (h : Heap) (Q : Ex → Env → St → Prop) : Ex → Env → St → Prop := fun e env' st' =>
  (match e with | .nm | .rt => True | _ => False) ∧ match evRes env' st'.h cf.res with
    | some vs => (gc h.length (rd.lp.length + 1) vs st'.h).all (lowObj (gc h.length (rd.lp.length + 1) vs st'.h).length rd.lp.length) = true ∧
      match st'.pd[rd.lp.length]? with
        | some q => WJ T rd (q.getD .nm) fs env ⟨gc h.length (rd.lp.length + 1) vs st'.h, st'.pd.take rd.lp.length⟩ Q
        | none => False
    | none => False

theorem WL_range {x : X} {ps : List Nat} {asg b : CCode} {fs : List Fr} {f : Nat} {caps : List AV} {cf : CFun} {h : Heap} {pd : List (Option Ex)} (hx : evX env x = some (.fn f caps)) (ho : T.orc f = none) (hc : T.code f = some cf) (hl : ([AV.yld rd.lp.length] ++ caps).length = cf.np)
    (hh : WL T { rd with lp := rd.lp ++ [some ⟨ps, asg, b, env⟩] } [.code cf.body] (argEnv 0 ([.yld rd.lp.length] ++ caps)) ⟨h, pd ++ [none]⟩ (afterR T rd cf fs env h Q)) (hrf : cf.rf = false := by rfl) : WL T rd (.code (.range x ps asg b) :: fs) env ⟨h, pd⟩ Q := by
  rw [WL_code, W_range]
  unfold WR
  rw [hx]
  simp only
  rw [WC_code ho hc hrf]
  refine ⟨hl, W.mono hh ?_⟩
  rintro e env' st' ⟨h1, h2⟩
  refine ⟨h1, ?_⟩
  split at h2
  · rename_i vs hv
    obtain ⟨h3, h4⟩ := h2
    simp only [hv, List.length_append, List.length_singleton]
    refine ⟨h3, ?_⟩
    split at h4
    · rename_i q hq
      first | (simp only [hq]; exact h4) | exact h4 | simpa [hq] using h4
    · exact h4.elim
  · exact h2.elim

theorem WL_scope {keep : List Nat} {b : CCode} {fs : List Fr} : WL T rd (.code (.scope keep b) :: fs) env st Q ↔ WL T rd [.code b] env st (onGt T rd keep b st (fun e env st => WJ T rd e fs env st Q)) := by
  rw [WL_code, W_scope, WS_iff]
  exact Iff.rfl
theorem WS_wl {keep : List Nat} {w c : CCode} : WS T rd keep w c env st Q ↔ WL T rd [.code c] env st (onGt T rd keep w st Q) := WS_iff
theorem onGt_go {keep : List Nat} {whole rest : CCode} {st' : St} {l : Nat} (hf : findL whole l = some rest)
    (h : WL T rd [.code rest] (restrict keep env) ⟨gc st.h.length rd.lp.length ((restrict keep env).map (·.2)) st'.h, st'.pd⟩ (onGt T rd keep whole ⟨gc st.h.length rd.lp.length ((restrict keep env).map (·.2)) st'.h, st'.pd⟩ Q)) : onGt T rd keep whole st Q (.gt l) env st' := by
  simp only [onGt, hf]
  rw [WS_wl]
  exact h
theorem onGt_rt {keep : List Nat} {whole : CCode} {st' : St} : onGt T rd keep whole st Q .rt env st' ↔ Q .rt env st' := Iff.rfl
theorem onGt_nm {keep : List Nat} {whole : CCode} {st' : St} : onGt T rd keep whole st Q .nm env st' ↔ Q .nm env st' := Iff.rfl
theorem onGt_ex {keep : List Nat} {whole : CCode} {st' : St} {i : Nat} : onGt T rd keep whole st Q (.ex i) env st' ↔ Q (.ex i) env st' := Iff.rfl
theorem WJ_nm {fs : List Fr} : WJ T rd .nm fs env st Q ↔ WL T rd fs env st Q := Iff.rfl

theorem getO_nil {l : Nat} : getO [] l = none := by simp [getO]
theorem getO_zero {o : Option AObj} {h : Heap} : getO (o :: h) 0 = o := by simp [getO]
theorem getO_succ {o : Option AObj} {h : Heap} {l : Nat} : getO (o :: h) (l + 1) = getO h l := by simp [getO]
end
end Go.Proofs.YtfifgiopdbdeoaaDoor.Lite
section
namespace Go.Proofs.YtfifgiopdbdeoaaDoor.Lite
open Go
set_option maxRecDepth 100000

def SKIP : List Nat := [31]
def codeOk (P : Program) (f : Nat) : Bool := match code f with | some cf => SKIP.contains f || chkFun P f cf | none => true
theorem codes_ok : (List.range 147).all (codeOk Tryd.prog) = true := by kernel_rfl

def code1 (f : Nat) : Option CFun := if SKIP.contains f then none else code f

theorem code1_ok (f : Nat) (cf : CFun) (h : code1 f = some cf) : chkFun Tryd.prog f cf = true := by
  unfold code1 at h
  split at h
  · cases h
  · rename_i hn
    have hf : f < 147 := by
      unfold code at h
      rcases Nat.lt_or_ge f 147 with h1 | h1
      · exact h1
      · rw [List.getElem?_eq_none (by show codeL.length ≤ f; exact h1)] at h; cases h
    have := List.all_eq_true.1 codes_ok f (List.mem_range.2 hf)
    unfold codeOk at this
    rw [h] at this
    simp only [Bool.or_eq_true] at this
    exact this.resolve_left hn

/-- A table: the program's code, but for those known by their contracts. -/
def tbl (L : List (Nat × (List DV → Option (List DV)))) : Tbl := ⟨code1, fun f => (L.find? fun p => p.1 == f).map (·.2)⟩

theorem tbl_ok {L : List (Nat × (List DV → Option (List DV)))} (h : ∀ p ∈ L, Pure Tryd.prog p.1 p.2) : TblOK Tryd.prog (tbl L) where
  orc := fun f F hf => by
    simp only [tbl] at hf
    cases hq : L.find? fun p => p.1 == f with
    | none => rw [hq] at hf; cases hf
    | some p =>
      rw [hq] at hf
      simp only [Option.map_some, Option.some.injEq] at hf
      subst hf
      have h1 := List.find?_some hq
      simp only [beq_iff_eq] at h1
      subst h1
      exact h p (List.mem_of_find?_eq_some hq)
  code := fun f cf _ hc => code1_ok f cf hc
end Go.Proofs.YtfifgiopdbdeoaaDoor.Lite
end
namespace Go.Proofs.YtfifgiopdbdeoaaDoor.Lite
open Go

noncomputable def orcOf {α : Type} (enc : α → List DV) (ok : α → Prop) (out : α → List DV) : List DV → Option (List DV) := by
  classical exact fun dvs => if h : ∃ x, ok x ∧ enc x = dvs then some (out (Classical.choose h)) else none

theorem orcOf_inv {α : Type} {enc : α → List DV} {ok : α → Prop} {out : α → List DV} {dvs rs : List DV} (h : orcOf enc ok out dvs = some rs) : ∃ x, ok x ∧ enc x = dvs ∧ rs = out x := by
  unfold orcOf at h
  split at h
  · rename_i hx; cases h; exact ⟨_, (Classical.choose_spec hx).1, (Classical.choose_spec hx).2, rfl⟩
  · cases h

theorem orcOf_eq {α : Type} {enc : α → List DV} {ok : α → Prop} {out : α → List DV} {x : α} (hx : ok x) (inj : ∀ y, enc y = enc x → y = x) : orcOf enc ok out (enc x) = some (out x) := by
  unfold orcOf
  have h : ∃ y, ok y ∧ enc y = enc x := ⟨x, hx, rfl⟩
  rw [dif_pos h, inj _ (Classical.choose_spec h).2]

theorem con {T : Tbl} (hT : TblOK Tryd.prog T) {f : Nat} {cf : CFun} (ho : T.orc f = none) (hc : T.code f = some cf) {α : Type} {enc : α → List DV} {ok : α → Prop} {out : α → List DV}
    (h : ∀ x, ok x → WCd T ⟨[], 0⟩ f [] ((enc x).map DV.av) ⟨[], []⟩ (fun y st' => outs st'.h y = some (out x)) cf) (hrf : cf.rf = false := by rfl) : Pure Tryd.prog f (orcOf enc ok out) :=
  pure_of hT ho hc fun dvs rs hF => by
    obtain ⟨x, hx, rfl, rfl⟩ := orcOf_inv hF
    rw [WC_code ho hc hrf]
    exact h x hx

def I (n : Int) : DV := .s (.int .i64 n)
def Bo (b : Bool) : DV := .s (.bool b)
abbrev vi (n : Int) : AV := .d (.int .i64 n)
abbrev vb (b : Bool) : AV := .d (.bool b)

theorem av_s (x : Dat) : (DV.s x).av = .d x := rfl

def place (n : Int) : Int := n % 65536
def far (a b : Int) : Int := (b - a) % 65536

theorem wrap64 (n : Int) : IntKind.i64.wrap n = if n % 18446744073709551616 ≥ 9223372036854775808 then n % 18446744073709551616 - 18446744073709551616 else n % 18446744073709551616 := by
  simp [IntKind.wrap, IntKind.bits, IntKind.signed]
end Go.Proofs.YtfifgiopdbdeoaaDoor.Lite
namespace Go.Proofs.YtfifgiopdbdeoaaDoor.Lite
open Go
attribute [local simp] WL_of WL_nil WL_blk WL_skip WL_label WL_exit WL_goto WL_seq WL_block WL_cond WL_reg WL_ret WJ_nil WJ_ex WJ_gt WJ_rt WJ_exb WJ_gtb WJ_rtb WLO_nil WLO_call WO_nw stepN WO_mv WO_pick WO_new WO_box WO_ld WO_ldn WO_st WO_off WO_ixa WO_ixs WO_fld WO_fldn WO_ixv WO_ixvn WO_ixb WO_bin WO_eqb WO_isn WO_eqs WO_not WO_conv WO_mkf WO_bld WO_bls WO_sla WO_sls WO_sl0 WO_len WO_app WO_mnx WO_ext WO_nilc wants_none wants_some wantv_b wantv_t WLV_true WLV_false WLC_false WLB_true WLB_false evX_t evX_c evXs_nil evXs_cons look_put look_putN look_cons look_arg0 look_arg stepK binOpA intOp strOp evRes oneOf outs gc toDV AV.dat? I Bo av_s List.map List.append_nil getO putO AV.cellsOf bne WL_dreg WLP_nil WLP_call WP_mv WP_pick WP_new WP_box WP_ld WP_ldn WP_off WP_ixa WP_ixs WP_fld WP_fldn WP_ixv WP_ixvn WP_ixb WP_bin WP_eqb WP_isn WP_eqs WP_not WP_conv WP_mkf WP_bld WP_bls WP_sla WP_sls WP_sl0 WP_len WP_app WP_mnx WP_ext WP_nilc WLPV_true WLPV_false WLPC_false WLC_tells WLPC_tells padH onNm onEx List.getElem?_cons_zero List.getElem?_cons_succ List.getElem?_nil restrict AV.lows lay AV.isCell lowObj AObj.lows WJ_nm AV.lows.go WL_scope onGt_rt onGt_nm onGt_ex WL_sreg WP_st preSt eraseB List.set_cons_zero List.set_cons_succ frz cutR cutAs cutA WL_sregT cutB cutBs

noncomputable def place_F := orcOf (fun n : Int => [I n]) (fun _ => True) (fun n => [I (place n)])
instance (n : Int) : Tells place_F [.d (.int .i64 n)] (.d (.int .i64 (place n))) :=
  ⟨_, [I (place n)], fun _ => rfl, orcOf_eq (enc := fun n : Int => [I n]) trivial (fun y h => by simpa [I] using h), rfl, rfl, fun _ _ => rfl⟩
noncomputable def far_F := orcOf (fun p : Int × Int => [I p.1, I p.2]) (fun _ => True) (fun p => [I (far p.1 p.2)])
instance (a b : Int) : Tells far_F [.d (.int .i64 a), .d (.int .i64 b)] (.d (.int .i64 (far a b))) :=
  ⟨_, [I (far a b)], fun _ => rfl, orcOf_eq (enc := fun p : Int × Int => [I p.1, I p.2]) (x := (a, b)) trivial (fun y h => by simpa [I, Prod.ext_iff] using h), rfl, rfl, fun _ _ => rfl⟩
def inB (a x b : Int) : Bool := far a x != 0 && (decide (far a x < far a b) || far a b == 0)
def upToB (a x b : Int) : Bool := far x b == 0 || inB a x b
noncomputable def in_F := orcOf (fun p : Int × Int × Int => [I p.1, I p.2.1, I p.2.2]) (fun _ => True) (fun p => [Bo (inB p.1 p.2.1 p.2.2)])
instance (a x b : Int) : Tells in_F [.d (.int .i64 a), .d (.int .i64 x), .d (.int .i64 b)] (.d (.bool (inB a x b))) :=
  ⟨_, [Bo (inB a x b)], fun _ => rfl, orcOf_eq (enc := fun p : Int × Int × Int => [I p.1, I p.2.1, I p.2.2]) (x := (a, x, b)) trivial (fun y h => by simpa [I, Prod.ext_iff] using h), rfl, rfl, fun _ _ => rfl⟩
noncomputable def upTo_F := orcOf (fun p : Int × Int × Int => [I p.1, I p.2.1, I p.2.2]) (fun _ => True) (fun p => [Bo (upToB p.1 p.2.1 p.2.2)])
instance (a x b : Int) : Tells upTo_F [.d (.int .i64 a), .d (.int .i64 x), .d (.int .i64 b)] (.d (.bool (upToB a x b))) :=
  ⟨_, [Bo (upToB a x b)], fun _ => rfl, orcOf_eq (enc := fun p : Int × Int × Int => [I p.1, I p.2.1, I p.2.2]) (x := (a, x, b)) trivial (fun y h => by simpa [I, Prod.ext_iff] using h), rfl, rfl, fun _ _ => rfl⟩

theorem and_place (n : Int) : IntKind.i64.wrap ↑((n % 2 ^ IntKind.i64.bits).toNat &&& 65535 % 2 ^ IntKind.i64.bits) = place n := by
  have e : 65535 % 2 ^ IntKind.i64.bits = 2 ^ 16 - 1 := by decide
  rw [e, Nat.and_two_pow_sub_one_eq_mod, wrap64]
  have h2 : (2 : Int) ^ IntKind.i64.bits = 18446744073709551616 := by decide
  rw [h2]
  unfold place
  have h1 : ((n % 18446744073709551616).toNat : Int) = n % 18446744073709551616 := Int.toNat_of_nonneg (Int.emod_nonneg _ (by decide))
  have h3 : (((n % 18446744073709551616).toNat % 2 ^ 16 : Nat) : Int) = n % 65536 := by
    rw [Int.natCast_emod, h1]; omega
  rw [h3]
  split <;> omega

theorem wrap_place (a b : Int) : place (IntKind.i64.wrap (b - a)) = far a b := by
  rw [wrap64]; unfold place far; split <;> omega

theorem arc_Place : Pure Tryd.prog 115 place_F := by
  refine con (T := tbl []) (tbl_ok (by simp)) rfl rfl fun n _ => ⟨rfl, ?_⟩
  simp [cf115, -getElem?_pos]
  exact and_place n
noncomputable abbrev arc_Place_F := place_F
noncomputable def TP : Tbl := tbl [(115, arc_Place_F)]
theorem TP_ok : TblOK Tryd.prog TP := tbl_ok (by
  simp only [List.mem_cons, List.not_mem_nil, or_false]
  rintro p (rfl)
  · exact arc_Place)
instance : Has TP 115 arc_Place_F := ⟨rfl⟩

theorem arc_Far : Pure Tryd.prog 92 far_F := by
  refine con TP_ok rfl rfl fun p _ => ⟨rfl, ?_⟩
  simp [cf92, -getElem?_pos, wrap_place]
noncomputable abbrev arc_Far_F := far_F
noncomputable def TF : Tbl := tbl [(115, arc_Place_F), (92, arc_Far_F)]
theorem TF_ok : TblOK Tryd.prog TF := tbl_ok (by
  simp only [List.mem_cons, List.not_mem_nil, or_false]
  rintro p (rfl | rfl)
  · exact arc_Place
  · exact arc_Far)
instance : Has TF 115 arc_Place_F := ⟨rfl⟩
instance : Has TF 92 arc_Far_F := ⟨rfl⟩

theorem arc_In : Pure Tryd.prog 46 in_F := by
  refine con TF_ok rfl rfl fun ⟨a, x, b⟩ _ => ⟨rfl, ?_⟩
  simp [cf46, -getElem?_pos, inB]
  all_goals (try (first | refine WLV_splitN (fun hs => ?_) (fun hs => ?_) | refine WLC_splitN (fun hs => ?_) (fun hs => ?_) | refine WLB_splitN (fun hs => ?_) (fun hs => ?_) | refine WLPV_splitN (fun hs => ?_) (fun hs => ?_) | refine WLPC_splitN (fun hs => ?_) (fun hs => ?_) | refine WLPV_split (fun hs => ?_) (fun hs => ?_) | refine WLPC_split (fun hs => ?_) (fun hs => ?_) | refine WLV_split (fun hs => ?_) (fun hs => ?_) | refine WLC_split (fun hs => ?_) (fun hs => ?_) | refine WLB_split (fun hs => ?_) (fun hs => ?_)))
  all_goals (try (have hs' := hs; simp at hs'))
  all_goals (try simp [*, -getElem?_pos])
  all_goals (try (first | refine WLV_splitN (fun hs => ?_) (fun hs => ?_) | refine WLC_splitN (fun hs => ?_) (fun hs => ?_) | refine WLB_splitN (fun hs => ?_) (fun hs => ?_) | refine WLPV_splitN (fun hs => ?_) (fun hs => ?_) | refine WLPC_splitN (fun hs => ?_) (fun hs => ?_) | refine WLPV_split (fun hs => ?_) (fun hs => ?_) | refine WLPC_split (fun hs => ?_) (fun hs => ?_) | refine WLV_split (fun hs => ?_) (fun hs => ?_) | refine WLC_split (fun hs => ?_) (fun hs => ?_) | refine WLB_split (fun hs => ?_) (fun hs => ?_)))
  all_goals (try (have hs' := hs; simp at hs'))
  all_goals (try simp [*, -getElem?_pos])
noncomputable abbrev arc_In_F := in_F
noncomputable def TI : Tbl := tbl [(115, arc_Place_F), (92, arc_Far_F), (46, arc_In_F)]
theorem TI_ok : TblOK Tryd.prog TI := tbl_ok (by
  simp only [List.mem_cons, List.not_mem_nil, or_false]
  rintro p (rfl | rfl | rfl)
  · exact arc_Place
  · exact arc_Far
  · exact arc_In)
instance : Has TI 115 arc_Place_F := ⟨rfl⟩
instance : Has TI 92 arc_Far_F := ⟨rfl⟩
instance : Has TI 46 arc_In_F := ⟨rfl⟩

theorem arc_UpTo : Pure Tryd.prog 141 upTo_F := by
  refine con TI_ok rfl rfl fun ⟨a, x, b⟩ _ => ⟨rfl, ?_⟩
  simp [cf141, -getElem?_pos, upToB]
  all_goals (try (first | refine WLV_splitN (fun hs => ?_) (fun hs => ?_) | refine WLC_splitN (fun hs => ?_) (fun hs => ?_) | refine WLB_splitN (fun hs => ?_) (fun hs => ?_) | refine WLPV_splitN (fun hs => ?_) (fun hs => ?_) | refine WLPC_splitN (fun hs => ?_) (fun hs => ?_) | refine WLPV_split (fun hs => ?_) (fun hs => ?_) | refine WLPC_split (fun hs => ?_) (fun hs => ?_) | refine WLV_split (fun hs => ?_) (fun hs => ?_) | refine WLC_split (fun hs => ?_) (fun hs => ?_) | refine WLB_split (fun hs => ?_) (fun hs => ?_)))
  all_goals (try (have hs' := hs; simp at hs'))
  all_goals (try simp [*, -getElem?_pos])
noncomputable abbrev arc_UpTo_F := upTo_F

theorem ref_place (n : Int) : (IntKind.i64.wrap (n.tmod 65536 + 65536)).tmod 65536 = place n := by
  have h1 := Int.tmod_lt_of_pos n (show (0 : Int) < 65536 by decide)
  have h2 : -65536 < n.tmod 65536 := by
    rcases Int.le_total 0 n with h | h
    · have := Int.tmod_nonneg 65536 h; omega
    · have h3 : (-n).tmod 65536 < 65536 := Int.tmod_lt_of_pos _ (by decide)
      rw [Int.neg_tmod] at h3; omega
  have h3 : IntKind.i64.wrap (n.tmod 65536 + 65536) = n.tmod 65536 + 65536 := by rw [wrap64]; split <;> omega
  rw [h3, Int.tmod_eq_emod_of_nonneg (by omega)]
  have h4 : n.tmod 65536 = n - 65536 * n.tdiv 65536 := Int.tmod_def n 65536
  rw [h4]; unfold place; omega
theorem garlandref03_Place : Pure Tryd.prog 57 place_F := by
  refine con (T := tbl []) (tbl_ok (by simp)) rfl rfl fun n _ => ⟨rfl, ?_⟩
  simp [cf57, -getElem?_pos]
  exact ref_place n
noncomputable abbrev garlandref03_Place_F := place_F
noncomputable def RP : Tbl := tbl [(57, garlandref03_Place_F)]
theorem RP_ok : TblOK Tryd.prog RP := tbl_ok (by
  simp only [List.mem_cons, List.not_mem_nil, or_false]
  rintro p (rfl)
  · exact garlandref03_Place)
instance : Has RP 57 garlandref03_Place_F := ⟨rfl⟩

theorem garlandref03_Far : Pure Tryd.prog 59 far_F := by
  refine con RP_ok rfl rfl fun p _ => ⟨rfl, ?_⟩
  simp [cf59, -getElem?_pos]
  rw [wrap64]; unfold place far; split <;> omega
noncomputable abbrev garlandref03_Far_F := far_F
noncomputable def RF : Tbl := tbl [(57, garlandref03_Place_F), (59, garlandref03_Far_F)]
theorem RF_ok : TblOK Tryd.prog RF := tbl_ok (by
  simp only [List.mem_cons, List.not_mem_nil, or_false]
  rintro p (rfl | rfl)
  · exact garlandref03_Place
  · exact garlandref03_Far)
instance : Has RF 57 garlandref03_Place_F := ⟨rfl⟩
instance : Has RF 59 garlandref03_Far_F := ⟨rfl⟩

theorem garlandref03_In : Pure Tryd.prog 27 in_F := by
  refine con RF_ok rfl rfl fun ⟨a, x, b⟩ _ => ⟨rfl, ?_⟩
  simp [cf27, -getElem?_pos]
  all_goals (try (first | refine WLV_splitN (fun hs => ?_) (fun hs => ?_) | refine WLC_splitN (fun hs => ?_) (fun hs => ?_) | refine WLB_splitN (fun hs => ?_) (fun hs => ?_) | refine WLPV_splitN (fun hs => ?_) (fun hs => ?_) | refine WLPC_splitN (fun hs => ?_) (fun hs => ?_) | refine WLPV_split (fun hs => ?_) (fun hs => ?_) | refine WLPC_split (fun hs => ?_) (fun hs => ?_) | refine WLV_split (fun hs => ?_) (fun hs => ?_) | refine WLC_split (fun hs => ?_) (fun hs => ?_) | refine WLB_split (fun hs => ?_) (fun hs => ?_)))
  all_goals (try (have hs' := hs; simp at hs'))
  all_goals (try simp [*, -getElem?_pos])
  all_goals (try (first | refine WLV_splitN (fun hs => ?_) (fun hs => ?_) | refine WLC_splitN (fun hs => ?_) (fun hs => ?_) | refine WLB_splitN (fun hs => ?_) (fun hs => ?_) | refine WLPV_splitN (fun hs => ?_) (fun hs => ?_) | refine WLPC_splitN (fun hs => ?_) (fun hs => ?_) | refine WLPV_split (fun hs => ?_) (fun hs => ?_) | refine WLPC_split (fun hs => ?_) (fun hs => ?_) | refine WLV_split (fun hs => ?_) (fun hs => ?_) | refine WLC_split (fun hs => ?_) (fun hs => ?_) | refine WLB_split (fun hs => ?_) (fun hs => ?_)))
  all_goals (try (have hs' := hs; simp at hs'))
  all_goals (try simp [*, -getElem?_pos])
  all_goals (try (first | refine WLV_splitN (fun hs => ?_) (fun hs => ?_) | refine WLC_splitN (fun hs => ?_) (fun hs => ?_) | refine WLB_splitN (fun hs => ?_) (fun hs => ?_) | refine WLPV_splitN (fun hs => ?_) (fun hs => ?_) | refine WLPC_splitN (fun hs => ?_) (fun hs => ?_) | refine WLPV_split (fun hs => ?_) (fun hs => ?_) | refine WLPC_split (fun hs => ?_) (fun hs => ?_) | refine WLV_split (fun hs => ?_) (fun hs => ?_) | refine WLC_split (fun hs => ?_) (fun hs => ?_) | refine WLB_split (fun hs => ?_) (fun hs => ?_)))
  all_goals (try (have hs' := hs; simp at hs'))
  all_goals (try simp [*, -getElem?_pos])
  all_goals (unfold inB; (try rw [Bool.eq_iff_iff]); (try simp [*, bne]); (try unfold place far at *); (try omega))
noncomputable abbrev garlandref03_In_F := in_F
noncomputable def RI : Tbl := tbl [(57, garlandref03_Place_F), (27, garlandref03_In_F)]
theorem RI_ok : TblOK Tryd.prog RI := tbl_ok (by
  simp only [List.mem_cons, List.not_mem_nil, or_false]
  rintro p (rfl | rfl)
  · exact garlandref03_Place
  · exact garlandref03_In)
instance : Has RI 57 garlandref03_Place_F := ⟨rfl⟩
instance : Has RI 27 garlandref03_In_F := ⟨rfl⟩

end Go.Proofs.YtfifgiopdbdeoaaDoor.Lite
namespace Go.Proofs.YtfifgiopdbdeoaaDoor.Lite
open Go
attribute [local simp] WL_of WL_nil WL_blk WL_skip WL_label WL_exit WL_goto WL_seq WL_block WL_cond WL_reg WL_ret WJ_nil WJ_ex WJ_gt WJ_rt WJ_exb WJ_gtb WJ_rtb WLO_nil WLO_call WO_nw stepN WO_mv WO_pick WO_new WO_box WO_ld WO_ldn WO_st WO_off WO_ixa WO_ixs WO_fld WO_fldn WO_ixv WO_ixvn WO_ixb WO_bin WO_eqb WO_isn WO_eqs WO_not WO_conv WO_mkf WO_bld WO_bls WO_sla WO_sls WO_sl0 WO_len WO_app WO_mnx WO_ext WO_nilc wants_none wants_some wantv_b wantv_t WLV_true WLV_false WLC_false WLB_true WLB_false evX_t evX_c evXs_nil evXs_cons look_put look_putN look_cons look_arg0 look_arg stepK binOpA intOp strOp evRes oneOf outs gc toDV AV.dat? I Bo av_s List.map List.append_nil getO putO AV.cellsOf bne WL_dreg WLP_nil WLP_call WP_mv WP_pick WP_new WP_box WP_ld WP_ldn WP_off WP_ixa WP_ixs WP_fld WP_fldn WP_ixv WP_ixvn WP_ixb WP_bin WP_eqb WP_isn WP_eqs WP_not WP_conv WP_mkf WP_bld WP_bls WP_sla WP_sls WP_sl0 WP_len WP_app WP_mnx WP_ext WP_nilc WLPV_true WLPV_false WLPC_false WLC_tells WLPC_tells padH onNm onEx List.getElem?_cons_zero List.getElem?_cons_succ List.getElem?_nil restrict AV.lows lay AV.isCell lowObj AObj.lows WJ_nm AV.lows.go WL_scope onGt_rt onGt_nm onGt_ex WL_sreg WP_st preSt eraseB List.set_cons_zero List.set_cons_succ frz cutR cutAs cutA WL_sregT cutB cutBs

def isPlace (n : Int) : Bool := decide (0 ≤ n) && decide (n < 65536)
noncomputable def isPlace_F := orcOf (fun n : Int => [I n]) (fun _ => True) (fun n => [Bo (isPlace n)])
instance (n : Int) : Tells isPlace_F [.d (.int .i64 n)] (.d (.bool (isPlace n))) :=
  ⟨_, [Bo (isPlace n)], fun _ => rfl, orcOf_eq (enc := fun n : Int => [I n]) trivial (fun y h => by simpa [I] using h), rfl, rfl, fun _ _ => rfl⟩

theorem list_place : Pure Tryd.prog 123 isPlace_F := by
  refine con (T := tbl []) (tbl_ok (by simp)) rfl rfl fun n _ => ⟨rfl, ?_⟩
  simp [cf123, -getElem?_pos, isPlace]
  all_goals (try (first | refine WLV_splitN (fun hs => ?_) (fun hs => ?_) | refine WLC_splitN (fun hs => ?_) (fun hs => ?_) | refine WLB_splitN (fun hs => ?_) (fun hs => ?_) | refine WLPV_splitN (fun hs => ?_) (fun hs => ?_) | refine WLPC_splitN (fun hs => ?_) (fun hs => ?_) | refine WLPV_split (fun hs => ?_) (fun hs => ?_) | refine WLPC_split (fun hs => ?_) (fun hs => ?_) | refine WLV_split (fun hs => ?_) (fun hs => ?_) | refine WLC_split (fun hs => ?_) (fun hs => ?_) | refine WLB_split (fun hs => ?_) (fun hs => ?_)))
  all_goals (try (have hs' := hs; simp at hs'))
  all_goals (try simp [*, -getElem?_pos])
noncomputable abbrev list_place_F := isPlace_F
theorem garlandref12_place : Pure Tryd.prog 56 isPlace_F := by
  refine con (T := tbl []) (tbl_ok (by simp)) rfl rfl fun n _ => ⟨rfl, ?_⟩
  simp [cf56, -getElem?_pos, isPlace]
  all_goals (try (first | refine WLV_splitN (fun hs => ?_) (fun hs => ?_) | refine WLC_splitN (fun hs => ?_) (fun hs => ?_) | refine WLB_splitN (fun hs => ?_) (fun hs => ?_) | refine WLPV_splitN (fun hs => ?_) (fun hs => ?_) | refine WLPC_splitN (fun hs => ?_) (fun hs => ?_) | refine WLPV_split (fun hs => ?_) (fun hs => ?_) | refine WLPC_split (fun hs => ?_) (fun hs => ?_) | refine WLV_split (fun hs => ?_) (fun hs => ?_) | refine WLC_split (fun hs => ?_) (fun hs => ?_) | refine WLB_split (fun hs => ?_) (fun hs => ?_)))
  all_goals (try (have hs' := hs; simp at hs'))
  all_goals (try simp [*, -getElem?_pos])
noncomputable abbrev garlandref12_place_F := isPlace_F
theorem garlandref13_place : Pure Tryd.prog 50 isPlace_F := by
  refine con (T := tbl []) (tbl_ok (by simp)) rfl rfl fun n _ => ⟨rfl, ?_⟩
  simp [cf50, -getElem?_pos, isPlace]
  all_goals (try (first | refine WLV_splitN (fun hs => ?_) (fun hs => ?_) | refine WLC_splitN (fun hs => ?_) (fun hs => ?_) | refine WLB_splitN (fun hs => ?_) (fun hs => ?_) | refine WLPV_splitN (fun hs => ?_) (fun hs => ?_) | refine WLPC_splitN (fun hs => ?_) (fun hs => ?_) | refine WLPV_split (fun hs => ?_) (fun hs => ?_) | refine WLPC_split (fun hs => ?_) (fun hs => ?_) | refine WLV_split (fun hs => ?_) (fun hs => ?_) | refine WLC_split (fun hs => ?_) (fun hs => ?_) | refine WLB_split (fun hs => ?_) (fun hs => ?_)))
  all_goals (try (have hs' := hs; simp at hs'))
  all_goals (try simp [*, -getElem?_pos])
noncomputable abbrev garlandref13_place_F := isPlace_F
theorem garlandref06_place : Pure Tryd.prog 52 isPlace_F := by
  refine con (T := tbl []) (tbl_ok (by simp)) rfl rfl fun n _ => ⟨rfl, ?_⟩
  simp [cf52, -getElem?_pos, isPlace]
  all_goals (try (first | refine WLV_splitN (fun hs => ?_) (fun hs => ?_) | refine WLC_splitN (fun hs => ?_) (fun hs => ?_) | refine WLB_splitN (fun hs => ?_) (fun hs => ?_) | refine WLPV_splitN (fun hs => ?_) (fun hs => ?_) | refine WLPC_splitN (fun hs => ?_) (fun hs => ?_) | refine WLPV_split (fun hs => ?_) (fun hs => ?_) | refine WLPC_split (fun hs => ?_) (fun hs => ?_) | refine WLV_split (fun hs => ?_) (fun hs => ?_) | refine WLC_split (fun hs => ?_) (fun hs => ?_) | refine WLB_split (fun hs => ?_) (fun hs => ?_)))
  all_goals (try (have hs' := hs; simp at hs'))
  all_goals (try simp [*, -getElem?_pos])
noncomputable abbrev garlandref06_place_F := isPlace_F
theorem view_place : Pure Tryd.prog 77 isPlace_F := by
  refine con (T := tbl []) (tbl_ok (by simp)) rfl rfl fun n _ => ⟨rfl, ?_⟩
  simp [cf77, -getElem?_pos, isPlace]
  all_goals (try (first | refine WLV_splitN (fun hs => ?_) (fun hs => ?_) | refine WLC_splitN (fun hs => ?_) (fun hs => ?_) | refine WLB_splitN (fun hs => ?_) (fun hs => ?_) | refine WLPV_splitN (fun hs => ?_) (fun hs => ?_) | refine WLPC_splitN (fun hs => ?_) (fun hs => ?_) | refine WLPV_split (fun hs => ?_) (fun hs => ?_) | refine WLPC_split (fun hs => ?_) (fun hs => ?_) | refine WLV_split (fun hs => ?_) (fun hs => ?_) | refine WLC_split (fun hs => ?_) (fun hs => ?_) | refine WLB_split (fun hs => ?_) (fun hs => ?_)))
  all_goals (try (have hs' := hs; simp at hs'))
  all_goals (try simp [*, -getElem?_pos])
noncomputable abbrev view_place_F := isPlace_F
theorem msg_place : Pure Tryd.prog 84 isPlace_F := by
  refine con (T := tbl []) (tbl_ok (by simp)) rfl rfl fun n _ => ⟨rfl, ?_⟩
  simp [cf84, -getElem?_pos, isPlace]
  all_goals (try (first | refine WLV_splitN (fun hs => ?_) (fun hs => ?_) | refine WLC_splitN (fun hs => ?_) (fun hs => ?_) | refine WLB_splitN (fun hs => ?_) (fun hs => ?_) | refine WLPV_splitN (fun hs => ?_) (fun hs => ?_) | refine WLPC_splitN (fun hs => ?_) (fun hs => ?_) | refine WLPV_split (fun hs => ?_) (fun hs => ?_) | refine WLPC_split (fun hs => ?_) (fun hs => ?_) | refine WLV_split (fun hs => ?_) (fun hs => ?_) | refine WLC_split (fun hs => ?_) (fun hs => ?_) | refine WLB_split (fun hs => ?_) (fun hs => ?_)))
  all_goals (try (have hs' := hs; simp at hs'))
  all_goals (try simp [*, -getElem?_pos])
noncomputable abbrev msg_place_F := isPlace_F

def behind (x a n : Int) : Bool := isPlace n && decide (far x a < far x n)
noncomputable def behind_F := orcOf (fun p : Int × Int × Int => [I p.1, I p.2.1, I p.2.2]) (fun _ => True) (fun p => [Bo (behind p.1 p.2.1 p.2.2)])
instance (a x b : Int) : Tells behind_F [.d (.int .i64 a), .d (.int .i64 x), .d (.int .i64 b)] (.d (.bool (behind a x b))) :=
  ⟨_, [Bo (behind a x b)], fun _ => rfl, orcOf_eq (enc := fun p : Int × Int × Int => [I p.1, I p.2.1, I p.2.2]) (x := (a, x, b)) trivial (fun y h => by simpa [I, Prod.ext_iff] using h), rfl, rfl, fun _ _ => rfl⟩
noncomputable def TB : Tbl := tbl [(123, list_place_F), (92, arc_Far_F)]
theorem TB_ok : TblOK Tryd.prog TB := tbl_ok (by
  simp only [List.mem_cons, List.not_mem_nil, or_false]
  rintro p (rfl | rfl)
  · exact list_place
  · exact arc_Far)
instance : Has TB 123 list_place_F := ⟨rfl⟩
instance : Has TB 92 arc_Far_F := ⟨rfl⟩

theorem list_behind : Pure Tryd.prog 91 behind_F := by
  refine con TB_ok rfl rfl fun ⟨x, a, n⟩ _ => ⟨rfl, ?_⟩
  simp [cf91, -getElem?_pos, behind]
  all_goals (try (first | refine WLV_splitN (fun hs => ?_) (fun hs => ?_) | refine WLC_splitN (fun hs => ?_) (fun hs => ?_) | refine WLB_splitN (fun hs => ?_) (fun hs => ?_) | refine WLPV_splitN (fun hs => ?_) (fun hs => ?_) | refine WLPC_splitN (fun hs => ?_) (fun hs => ?_) | refine WLPV_split (fun hs => ?_) (fun hs => ?_) | refine WLPC_split (fun hs => ?_) (fun hs => ?_) | refine WLV_split (fun hs => ?_) (fun hs => ?_) | refine WLC_split (fun hs => ?_) (fun hs => ?_) | refine WLB_split (fun hs => ?_) (fun hs => ?_)))
  all_goals (try (have hs' := hs; simp at hs'))
  all_goals (try simp [*, -getElem?_pos])
noncomputable abbrev list_behind_F := behind_F

def farther (x a b : Int) : Bool := decide (far x a < far x b)
noncomputable def farther_F := orcOf (fun p : Int × Int × Int => [I p.1, I p.2.1, I p.2.2]) (fun _ => True) (fun p => [Bo (farther p.1 p.2.1 p.2.2)])
instance (a x b : Int) : Tells farther_F [.d (.int .i64 a), .d (.int .i64 x), .d (.int .i64 b)] (.d (.bool (farther a x b))) :=
  ⟨_, [Bo (farther a x b)], fun _ => rfl, orcOf_eq (enc := fun p : Int × Int × Int => [I p.1, I p.2.1, I p.2.2]) (x := (a, x, b)) trivial (fun y h => by simpa [I, Prod.ext_iff] using h), rfl, rfl, fun _ _ => rfl⟩
noncomputable def TRF : Tbl := tbl [(59, garlandref03_Far_F)]
theorem TRF_ok : TblOK Tryd.prog TRF := tbl_ok (by
  simp only [List.mem_cons, List.not_mem_nil, or_false]
  rintro p (rfl)
  · exact garlandref03_Far)
instance : Has TRF 59 garlandref03_Far_F := ⟨rfl⟩

theorem garlandref12_farther : Pure Tryd.prog 58 farther_F := by
  refine con TRF_ok rfl rfl fun ⟨x, a, n⟩ _ => ⟨rfl, ?_⟩
  simp [cf58, -getElem?_pos, farther]
noncomputable abbrev garlandref12_farther_F := farther_F

/-! ### slices of ints -/
def rowsI (l : List Int) : List (List Dat) := l.map fun n => [.int .i64 n]
theorem rowsI_length (l : List Int) : (rowsI l).length = l.length := by simp [rowsI]
theorem rowsI_get (l : List Int) (i : Nat) : (rowsI l)[i]? = (l[i]?).map fun n => [.int .i64 n] := by simp [rowsI]
theorem rowsI_ok (l : List Int) : rowsOk 1 (rowsI l) = true := by simp [rowsI, rowsOk]
theorem rowsI_inj {l k : List Int} (h : rowsI l = rowsI k) : l = k := by
  induction l generalizing k with
  | nil => cases k with | nil => rfl | cons b k => simp [rowsI] at h
  | cons a l ih =>
    cases k with
    | nil => simp [rowsI] at h
    | cons b k =>
      simp only [rowsI, List.map_cons, List.cons.injEq, Dat.int.injEq, true_and, and_true] at h
      obtain ⟨rfl, h⟩ := h
      rw [ih h]
abbrev vsI (l : List Int) : AV := .d (.sl (rowsI l))
def SI (l : List Int) : DV := .s (.sl (rowsI l))

def chain (x : Int) : Int → List Int → Bool
  | _, [] => true
  | a, n :: l => behind x a n && chain x n l
def listRight (x : Int) (l : List Int) : Bool := chain x x l && decide (l.length ≤ 3)
noncomputable def listRight_F := orcOf (fun p : Int × List Int => [I p.1, SI p.2]) (fun p => p.2.length < 9223372036854775808) (fun p => [Bo (listRight p.1 p.2)])

noncomputable def TLR : Tbl := tbl [(56, garlandref12_place_F), (57, garlandref03_Place_F), (58, garlandref12_farther_F)]
theorem TLR_ok : TblOK Tryd.prog TLR := tbl_ok (by
  simp only [List.mem_cons, List.not_mem_nil, or_false]
  rintro p (rfl | rfl | rfl)
  · exact garlandref12_place
  · exact garlandref03_Place
  · exact garlandref12_farther)
instance : Has TLR 56 garlandref12_place_F := ⟨rfl⟩
instance : Has TLR 57 garlandref03_Place_F := ⟨rfl⟩
instance : Has TLR 58 garlandref12_farther_F := ⟨rfl⟩

def okAt (x : Int) (l : List Int) (j : Nat) (n : Int) : Bool := isPlace n && !(n == place x) && (j == 0 || farther x (l.getD (j - 1) 0) n)
theorem wrapN (n : Nat) (h : n < 9223372036854775808) : IntKind.i64.wrap (n : Int) = n := by rw [wrap64]; split <;> omega
theorem wrapN1 (n : Nat) (h : n < 9223372036854775807) : IntKind.i64.wrap ((n : Int) + 1) = ((n + 1 : Nat) : Int) := by rw [wrap64]; split <;> omega
def L12 : CCode := (.loop [0, 1, 5] (.seq (.seq (.reg (⟨(some 6), .mv (.t 5), none⟩ ::
    ⟨(some 7), .mv (.t 1), none⟩ ::
    ⟨(some 8), .len false (.t 7), none⟩ ::
    ⟨(some 9), .bin .lss (.t 6) (.t 8), none⟩ ::
    []))
  (.cond (.t 9) .skip (.exit 0)))
  (.seq (.block 1 (.seq (.dreg (⟨(some 12), .mv (.t 1), none⟩ ::
    ⟨(some 13), .mv (.t 5), none⟩ ::
    ⟨(some 14), .ixs 1 (.t 12) (.t 13), none⟩ ::
    ⟨(some 15), .ld (.t 14), none⟩ ::
    ⟨(some 16), .call (.c (.fn 56 [])) [(.t 15)], none⟩ ::
    ⟨(some 17), .not (.t 16), none⟩ ::
    ⟨(some 18), .mv (.t 17), none⟩ ::
    ⟨(some 19), .mv (.t 1), (some (18, false))⟩ ::
    ⟨(some 20), .mv (.t 5), (some (18, false))⟩ ::
    ⟨(some 21), .ixs 1 (.t 19) (.t 20), (some (18, false))⟩ ::
    ⟨(some 22), .ld (.t 21), (some (18, false))⟩ ::
    ⟨(some 23), .mv (.t 0), (some (18, false))⟩ ::
    ⟨(some 24), .call (.c (.fn 57 [])) [(.t 23)], (some (18, false))⟩ ::
    ⟨(some 25), .bin .eql (.t 22) (.t 24), (some (18, false))⟩ ::
    ⟨(some 26), .pick (.t 18) (.c (.d (.bool true))) (.t 25), none⟩ ::
    ⟨(some 27), .mv (.t 26), none⟩ ::
    ⟨(some 28), .mv (.t 5), (some (27, false))⟩ ::
    ⟨(some 29), .bin .gtr (.t 28) (.c (.d (.int .i64 0))), (some (27, false))⟩ ::
    ⟨(some 30), .mv (.t 29), (some (27, false))⟩ ::
    ⟨(some 31), .mv (.t 0), (some (30, true))⟩ ::
    ⟨(some 32), .mv (.t 1), (some (30, true))⟩ ::
    ⟨(some 33), .mv (.t 5), (some (30, true))⟩ ::
    ⟨(some 34), .bin .sub (.t 33) (.c (.d (.int .i64 1))), (some (30, true))⟩ ::
    ⟨(some 35), .ixs 1 (.t 32) (.t 34), (some (30, true))⟩ ::
    ⟨(some 36), .ld (.t 35), (some (30, true))⟩ ::
    ⟨(some 37), .mv (.t 1), (some (30, true))⟩ ::
    ⟨(some 38), .mv (.t 5), (some (30, true))⟩ ::
    ⟨(some 39), .ixs 1 (.t 37) (.t 38), (some (30, true))⟩ ::
    ⟨(some 40), .ld (.t 39), (some (30, true))⟩ ::
    ⟨(some 41), .call (.c (.fn 58 [])) [(.t 31), (.t 36), (.t 40)], (some (30, true))⟩ ::
    ⟨(some 42), .not (.t 41), (some (30, true))⟩ ::
    ⟨(some 43), .pick (.t 30) (.t 42) (.c (.d (.bool false))), (some (27, false))⟩ ::
    ⟨(some 44), .pick (.t 27) (.c (.d (.bool true))) (.t 43), none⟩ ::
    []) ([]))
  (.cond (.t 44) (.seq (.reg (⟨(some 4), .mv (.c (.d (.bool false))), none⟩ ::
    []))
  .ret) .skip)))
  (.reg (⟨(some 10), .mv (.t 5), none⟩ ::
    ⟨(some 11), .bin .add (.t 10) (.c (.d (.int .i64 1))), none⟩ ::
    ⟨(some 5), .mv (.t 11), none⟩ ::
    [])))))
theorem L12_eq : L12 = .loop [0, 1, 5] (.seq (.seq (.reg (⟨(some 6), .mv (.t 5), none⟩ ::
    ⟨(some 7), .mv (.t 1), none⟩ ::
    ⟨(some 8), .len false (.t 7), none⟩ ::
    ⟨(some 9), .bin .lss (.t 6) (.t 8), none⟩ ::
    []))
  (.cond (.t 9) .skip (.exit 0)))
  (.seq (.block 1 (.seq (.dreg (⟨(some 12), .mv (.t 1), none⟩ ::
    ⟨(some 13), .mv (.t 5), none⟩ ::
    ⟨(some 14), .ixs 1 (.t 12) (.t 13), none⟩ ::
    ⟨(some 15), .ld (.t 14), none⟩ ::
    ⟨(some 16), .call (.c (.fn 56 [])) [(.t 15)], none⟩ ::
    ⟨(some 17), .not (.t 16), none⟩ ::
    ⟨(some 18), .mv (.t 17), none⟩ ::
    ⟨(some 19), .mv (.t 1), (some (18, false))⟩ ::
    ⟨(some 20), .mv (.t 5), (some (18, false))⟩ ::
    ⟨(some 21), .ixs 1 (.t 19) (.t 20), (some (18, false))⟩ ::
    ⟨(some 22), .ld (.t 21), (some (18, false))⟩ ::
    ⟨(some 23), .mv (.t 0), (some (18, false))⟩ ::
    ⟨(some 24), .call (.c (.fn 57 [])) [(.t 23)], (some (18, false))⟩ ::
    ⟨(some 25), .bin .eql (.t 22) (.t 24), (some (18, false))⟩ ::
    ⟨(some 26), .pick (.t 18) (.c (.d (.bool true))) (.t 25), none⟩ ::
    ⟨(some 27), .mv (.t 26), none⟩ ::
    ⟨(some 28), .mv (.t 5), (some (27, false))⟩ ::
    ⟨(some 29), .bin .gtr (.t 28) (.c (.d (.int .i64 0))), (some (27, false))⟩ ::
    ⟨(some 30), .mv (.t 29), (some (27, false))⟩ ::
    ⟨(some 31), .mv (.t 0), (some (30, true))⟩ ::
    ⟨(some 32), .mv (.t 1), (some (30, true))⟩ ::
    ⟨(some 33), .mv (.t 5), (some (30, true))⟩ ::
    ⟨(some 34), .bin .sub (.t 33) (.c (.d (.int .i64 1))), (some (30, true))⟩ ::
    ⟨(some 35), .ixs 1 (.t 32) (.t 34), (some (30, true))⟩ ::
    ⟨(some 36), .ld (.t 35), (some (30, true))⟩ ::
    ⟨(some 37), .mv (.t 1), (some (30, true))⟩ ::
    ⟨(some 38), .mv (.t 5), (some (30, true))⟩ ::
    ⟨(some 39), .ixs 1 (.t 37) (.t 38), (some (30, true))⟩ ::
    ⟨(some 40), .ld (.t 39), (some (30, true))⟩ ::
    ⟨(some 41), .call (.c (.fn 58 [])) [(.t 31), (.t 36), (.t 40)], (some (30, true))⟩ ::
    ⟨(some 42), .not (.t 41), (some (30, true))⟩ ::
    ⟨(some 43), .pick (.t 30) (.t 42) (.c (.d (.bool false))), (some (27, false))⟩ ::
    ⟨(some 44), .pick (.t 27) (.c (.d (.bool true))) (.t 43), none⟩ ::
    []) ([]))
  (.cond (.t 44) (.seq (.reg (⟨(some 4), .mv (.c (.d (.bool false))), none⟩ ::
    []))
  .ret) .skip)))
  (.reg (⟨(some 10), .mv (.t 5), none⟩ ::
    ⟨(some 11), .bin .add (.t 10) (.c (.d (.int .i64 1))), none⟩ ::
    ⟨(some 5), .mv (.t 11), none⟩ ::
    [])))) := rfl
theorem ref12_loop (x : Int) (l : List Int) (hl : l.length < 9223372036854775808) : ∀ (k i : Nat), l.length - i = k → i ≤ l.length → ∀ (env : Env), look env 0 = some (.d (.int .i64 x)) → look env 1 = some (vsI l) → look env 5 = some (.d (.int .i64 i)) →
    ∀ (Q : Ex → Env → St → Prop), ((∀ j n, i ≤ j → l[j]? = some n → okAt x l j n = true) → ∀ env', look env' 0 = some (.d (.int .i64 x)) → look env' 1 = some (vsI l) → Q (.ex 0) env' ⟨[], []⟩) →
      ((∃ j n, i ≤ j ∧ l[j]? = some n ∧ okAt x l j n = false) → ∀ env' h', look env' 4 = some (.d (.bool false)) → Q .rt env' ⟨h', []⟩) → W TLR ⟨[], 0⟩ L12 env ⟨[], []⟩ Q := by
  intro k
  induction k with
  | zero =>
    intro i hk hi env h0 h1 h5 Q hQ1 hQ2
    have hlt : ¬ i < l.length := by omega
    rw [L12_eq, W_loop]
    simp [-getElem?_pos, h0, h1, h5, stepK.lenA, rowsI_length, hlt]
    refine hQ1 (fun j n hj hn => absurd (List.getElem?_eq_some_iff.1 hn).1 (by omega)) _ ?_ ?_ <;> simp [-getElem?_pos, h0, h1]
  | succ k ih =>
    intro i hk hi env h0 h1 h5 Q hQ1 hQ2
    have hlt : i < l.length := by omega
    obtain ⟨n, hn⟩ : ∃ n, l[i]? = some n := ⟨_, List.getElem?_eq_getElem hlt⟩
    have bad : okAt x l i n = false → ∃ j n, i ≤ j ∧ l[j]? = some n ∧ okAt x l j n = false := fun h => ⟨i, n, Nat.le_refl _, hn, h⟩
    have hw := wrapN1 i (by omega)
    rw [L12_eq, W_loop]
    cases i with
    | zero =>
      simp [-getElem?_pos, h0, h1, h5, stepK.lenA, rowsI_length, rowsI_get, hn, hlt]
      all_goals (try (first | refine WLV_splitN (fun hs => ?_) (fun hs => ?_) | refine WLC_splitN (fun hs => ?_) (fun hs => ?_) | refine WLB_splitN (fun hs => ?_) (fun hs => ?_) | refine WLPV_splitN (fun hs => ?_) (fun hs => ?_) | refine WLPC_splitN (fun hs => ?_) (fun hs => ?_) | refine WLPV_split (fun hs => ?_) (fun hs => ?_) | refine WLPC_split (fun hs => ?_) (fun hs => ?_) | refine WLV_split (fun hs => ?_) (fun hs => ?_) | refine WLC_split (fun hs => ?_) (fun hs => ?_) | refine WLB_split (fun hs => ?_) (fun hs => ?_)))
      all_goals (try (have hs' := hs; simp at hs'))
      all_goals (try simp [*, -getElem?_pos, h0, h1, h5, rowsI_get, hn])
      all_goals (try (first | refine WLV_splitN (fun hs => ?_) (fun hs => ?_) | refine WLC_splitN (fun hs => ?_) (fun hs => ?_) | refine WLB_splitN (fun hs => ?_) (fun hs => ?_) | refine WLPV_splitN (fun hs => ?_) (fun hs => ?_) | refine WLPC_splitN (fun hs => ?_) (fun hs => ?_) | refine WLPV_split (fun hs => ?_) (fun hs => ?_) | refine WLPC_split (fun hs => ?_) (fun hs => ?_) | refine WLV_split (fun hs => ?_) (fun hs => ?_) | refine WLC_split (fun hs => ?_) (fun hs => ?_) | refine WLB_split (fun hs => ?_) (fun hs => ?_)))
      all_goals (try (have hs' := hs; simp at hs'))
      all_goals (try simp [*, -getElem?_pos, h0, h1, h5, rowsI_get, hn])
      all_goals (try (first | refine WLV_splitN (fun hs => ?_) (fun hs => ?_) | refine WLC_splitN (fun hs => ?_) (fun hs => ?_) | refine WLB_splitN (fun hs => ?_) (fun hs => ?_) | refine WLPV_splitN (fun hs => ?_) (fun hs => ?_) | refine WLPC_splitN (fun hs => ?_) (fun hs => ?_) | refine WLPV_split (fun hs => ?_) (fun hs => ?_) | refine WLPC_split (fun hs => ?_) (fun hs => ?_) | refine WLV_split (fun hs => ?_) (fun hs => ?_) | refine WLC_split (fun hs => ?_) (fun hs => ?_) | refine WLB_split (fun hs => ?_) (fun hs => ?_)))
      all_goals (try (have hs' := hs; simp at hs'))
      all_goals (try simp [*, -getElem?_pos, h0, h1, h5, rowsI_get, hn])
      all_goals first
        | (refine hQ2 (bad ?_) _ _ ?_ <;> simp [*, okAt, -getElem?_pos]; done)
        | (refine (WL_of (c := L12)).1 (ih 1 (by omega) (by omega) _ ?_ ?_ ?_ Q (fun hall => hQ1 fun j m hj hm => ?_) (fun ⟨j, m, hj, h⟩ => hQ2 ⟨j, m, by omega, h⟩))
           · simp [-getElem?_pos, h0]
           · simp [-getElem?_pos, h1]
           · simp [-getElem?_pos]; rfl
           · cases j with
             | zero => rw [hn] at hm; cases hm; simp [*, okAt]
             | succ j => exact hall _ m (by omega) hm)
    | succ j =>
      obtain ⟨m, hm⟩ : ∃ m, l[j]? = some m := ⟨_, List.getElem?_eq_getElem (by omega)⟩
      have hw1 := wrapN j (by omega)
      have hgd : l.getD j 0 = m := by rw [List.getD_eq_getElem?_getD, hm]; rfl
      have e1 : ((↑(j + 1) : Int) - 1) = (j : Int) := by omega
      have e2 : (0 : Int) < ↑(j + 1) := by omega
      simp [-getElem?_pos, h0, h1, h5, stepK.lenA, rowsI_length, rowsI_get, hn, hlt, -Int.natCast_add]
      all_goals (try (first | refine WLV_splitN (fun hs => ?_) (fun hs => ?_) | refine WLC_splitN (fun hs => ?_) (fun hs => ?_) | refine WLB_splitN (fun hs => ?_) (fun hs => ?_) | refine WLPV_splitN (fun hs => ?_) (fun hs => ?_) | refine WLPC_splitN (fun hs => ?_) (fun hs => ?_) | refine WLPV_split (fun hs => ?_) (fun hs => ?_) | refine WLPC_split (fun hs => ?_) (fun hs => ?_) | refine WLV_split (fun hs => ?_) (fun hs => ?_) | refine WLC_split (fun hs => ?_) (fun hs => ?_) | refine WLB_split (fun hs => ?_) (fun hs => ?_)))
      all_goals (try (have hs' := hs; simp at hs'))
      all_goals (try simp [*, -getElem?_pos, h0, h1, h5, rowsI_get, hn, -Int.natCast_add])
      all_goals (try (first | refine WLV_splitN (fun hs => ?_) (fun hs => ?_) | refine WLC_splitN (fun hs => ?_) (fun hs => ?_) | refine WLB_splitN (fun hs => ?_) (fun hs => ?_) | refine WLPV_splitN (fun hs => ?_) (fun hs => ?_) | refine WLPC_splitN (fun hs => ?_) (fun hs => ?_) | refine WLPV_split (fun hs => ?_) (fun hs => ?_) | refine WLPC_split (fun hs => ?_) (fun hs => ?_) | refine WLV_split (fun hs => ?_) (fun hs => ?_) | refine WLC_split (fun hs => ?_) (fun hs => ?_) | refine WLB_split (fun hs => ?_) (fun hs => ?_)))
      all_goals (try (have hs' := hs; simp at hs'))
      all_goals (try simp [*, -getElem?_pos, h0, h1, h5, rowsI_get, hn, -Int.natCast_add])
      all_goals (try (first | refine WLV_splitN (fun hs => ?_) (fun hs => ?_) | refine WLC_splitN (fun hs => ?_) (fun hs => ?_) | refine WLB_splitN (fun hs => ?_) (fun hs => ?_) | refine WLPV_splitN (fun hs => ?_) (fun hs => ?_) | refine WLPC_splitN (fun hs => ?_) (fun hs => ?_) | refine WLPV_split (fun hs => ?_) (fun hs => ?_) | refine WLPC_split (fun hs => ?_) (fun hs => ?_) | refine WLV_split (fun hs => ?_) (fun hs => ?_) | refine WLC_split (fun hs => ?_) (fun hs => ?_) | refine WLB_split (fun hs => ?_) (fun hs => ?_)))
      all_goals (try (have hs' := hs; simp at hs'))
      all_goals (try simp [*, -getElem?_pos, h0, h1, h5, rowsI_get, hn, -Int.natCast_add])
      all_goals (try (first | refine WLV_splitN (fun hs => ?_) (fun hs => ?_) | refine WLC_splitN (fun hs => ?_) (fun hs => ?_) | refine WLB_splitN (fun hs => ?_) (fun hs => ?_) | refine WLPV_splitN (fun hs => ?_) (fun hs => ?_) | refine WLPC_splitN (fun hs => ?_) (fun hs => ?_) | refine WLPV_split (fun hs => ?_) (fun hs => ?_) | refine WLPC_split (fun hs => ?_) (fun hs => ?_) | refine WLV_split (fun hs => ?_) (fun hs => ?_) | refine WLC_split (fun hs => ?_) (fun hs => ?_) | refine WLB_split (fun hs => ?_) (fun hs => ?_)))
      all_goals (try (have hs' := hs; simp at hs'))
      all_goals (try simp [*, -getElem?_pos, h0, h1, h5, rowsI_get, hn, -Int.natCast_add])
      all_goals first
        | (refine hQ2 (bad ?_) _ _ ?_ <;> simp [*, okAt, -getElem?_pos]; done)
        | (refine (WL_of (c := L12)).1 (ih (j + 1 + 1) (by omega) (by omega) _ ?_ ?_ ?_ Q (fun hall => hQ1 fun i m' hi hm' => ?_) (fun ⟨i, m', hi, h⟩ => hQ2 ⟨i, m', by omega, h⟩))
           · simp [-getElem?_pos, h0]
           · simp [-getElem?_pos, h1]
           · simp [-getElem?_pos, hw, -Int.natCast_add]
           · rcases Nat.lt_or_ge (j + 1) i with h | h
             · exact hall _ m' (by omega) hm'
             · have : i = j + 1 := by omega
               subst this
               rw [hn] at hm'; cases hm'; simp [*, okAt])

theorem behind_first (x n : Int) : behind x x n = (isPlace n && !(n == place x)) := by
  unfold behind isPlace place far
  rw [Bool.eq_iff_iff]; simp; omega
theorem behind_next (x a n : Int) : behind x a n = (isPlace n && !(n == place x) && farther x a n) := by
  unfold behind isPlace place farther far
  rw [Bool.eq_iff_iff]; simp; omega
theorem chain_iff (x : Int) : ∀ (l : List Int) (a : Int), chain x a l = true ↔ ∀ j n, l[j]? = some n → behind x (if j = 0 then a else l.getD (j - 1) 0) n = true
  | [], a => by simp [chain]
  | m :: l, a => by
    simp only [chain, Bool.and_eq_true, chain_iff x l m]
    constructor
    · rintro ⟨h1, h2⟩ j n hn
      cases j with
      | zero => simp at hn; subst hn; simpa using h1
      | succ j =>
        have := h2 j n (by simpa using hn)
        cases j with
        | zero => simpa using this
        | succ j => simpa using this
    · intro h
      refine ⟨by simpa using h 0 m rfl, fun j n hn => ?_⟩
      have := h (j + 1) n (by simpa using hn)
      cases j with
      | zero => simpa using this
      | succ j => simpa using this
theorem chain_ok (x : Int) (l : List Int) : chain x x l = true ↔ ∀ j n, l[j]? = some n → okAt x l j n = true := by
  rw [chain_iff]
  have : ∀ j n, behind x (if j = 0 then x else l.getD (j - 1) 0) n = okAt x l j n := by
    intro j n
    cases j with
    | zero => simp [okAt, behind_first]
    | succ j => simp [okAt, behind_next]
  simp only [this]

theorem garlandref12_Right : Pure Tryd.prog 26 listRight_F := by
  refine con TLR_ok rfl rfl fun ⟨x, l⟩ hl => ⟨rfl, ?_⟩
  simp [cf26, -getElem?_pos, SI]
  rw [WL_code]
  refine ref12_loop x l hl l.length 0 (by omega) (by omega) _ ?_ ?_ ?_ _ (fun hall env' h0 h1 => ?_) (fun hbad env' h' h4 => ?_)
  · simp [-getElem?_pos]
  · simp [-getElem?_pos, vsI]
  · simp [-getElem?_pos]
  · have := (chain_ok x l).2 fun j n hn => hall j n (Nat.zero_le _) hn
    simp [-getElem?_pos, h0, h1, stepK.lenA, rowsI_length, listRight, this]
    omega
  · have : chain x x l = false := by
      cases h : chain x x l with
      | false => rfl
      | true => obtain ⟨j, n, _, hn, hb⟩ := hbad; rw [(chain_ok x l).1 h j n hn] at hb; cases hb
    simp [-getElem?_pos, h4, listRight, this]
noncomputable abbrev garlandref12_Right_F := listRight_F

/-! ### list.Right: a range over a function -/
noncomputable def TLS : Tbl := tbl [(91, list_behind_F)]
theorem TLS_ok : TblOK Tryd.prog TLS := tbl_ok (by
  simp only [List.mem_cons, List.not_mem_nil, or_false]
  rintro p (rfl)
  · exact list_behind)
instance : Has TLS 91 list_behind_F := ⟨rfl⟩

def L98 : CCode := (.loop [0, 2, 6, 7, 8] (.seq (.reg (⟨(some 9), .bin .lss (.t 8) (.t 7), none⟩ ::
    []))
  (.seq (.cond (.t 9) .skip (.exit 0))
  (.seq (.block 1 (.seq (.reg (⟨(some 10), .ixs 1 (.t 6) (.t 8), none⟩ ::
    ⟨(some 11), .ld (.t 10), none⟩ ::
    ⟨(some 5), .mv (.t 11), none⟩ ::
    []))
  (.seq (.seq (.reg (⟨(some 12), .mv (.t 0), none⟩ ::
    ⟨(some 13), .ld (.t 2), none⟩ ::
    ⟨(some 14), .mv (.t 5), none⟩ ::
    ⟨(some 15), .call (.t 12) [(.t 13), (.t 14)], none⟩ ::
    ⟨(some 16), .not (.t 15), none⟩ ::
    []))
  (.cond (.t 16) .ret .skip))
  (.reg (⟨(some 17), .mv (.t 5), none⟩ ::
    ⟨none, .st 1 (.t 2) (.t 17), none⟩ ::
    [])))))
  (.reg (⟨(some 18), .bin .add (.t 8) (.c (.d (.int .i64 1))), none⟩ ::
    ⟨(some 8), .mv (.t 18), none⟩ ::
    []))))))
theorem L98_eq : L98 = .loop [0, 2, 6, 7, 8] (.seq (.reg (⟨(some 9), .bin .lss (.t 8) (.t 7), none⟩ ::
    []))
  (.seq (.cond (.t 9) .skip (.exit 0))
  (.seq (.block 1 (.seq (.reg (⟨(some 10), .ixs 1 (.t 6) (.t 8), none⟩ ::
    ⟨(some 11), .ld (.t 10), none⟩ ::
    ⟨(some 5), .mv (.t 11), none⟩ ::
    []))
  (.seq (.seq (.reg (⟨(some 12), .mv (.t 0), none⟩ ::
    ⟨(some 13), .ld (.t 2), none⟩ ::
    ⟨(some 14), .mv (.t 5), none⟩ ::
    ⟨(some 15), .call (.t 12) [(.t 13), (.t 14)], none⟩ ::
    ⟨(some 16), .not (.t 15), none⟩ ::
    []))
  (.cond (.t 16) .ret .skip))
  (.reg (⟨(some 17), .mv (.t 5), none⟩ ::
    ⟨none, .st 1 (.t 2) (.t 17), none⟩ ::
    [])))))
  (.reg (⟨(some 18), .bin .add (.t 8) (.c (.d (.int .i64 1))), none⟩ ::
    ⟨(some 8), .mv (.t 18), none⟩ ::
    []))))) := rfl
def recR (e0 : Env) : LRec := ⟨[10, 11], (.seq (.reg (⟨(some 5), .mv (.t 10), none⟩ ::
    []))
  (.reg (⟨(some 6), .mv (.t 11), none⟩ ::
    []))), (.block 1 (.seq (.reg (⟨(some 12), .ld (.t 2), none⟩ ::
    ⟨(some 13), .mv (.t 5), none⟩ ::
    ⟨(some 14), .mv (.t 6), none⟩ ::
    ⟨(some 15), .call (.c (.fn 91 [])) [(.t 12), (.t 13), (.t 14)], none⟩ ::
    ⟨(some 16), .not (.t 15), none⟩ ::
    []))
  (.cond (.t 16) (.seq (.reg (⟨none, .st 1 (.t 4) (.c (.d (.bool false))), none⟩ ::
    []))
  .ret) .skip))), e0⟩
theorem sides_loop (x : Int) (l : List Int) (hl : l.length < 9223372036854775808) (e0 : Env) (g2 : look e0 2 = some (.ptr 0 0)) (g4 : look e0 4 = some (.ptr 1 0)) : ∀ (k i : Nat), l.length - i = k → i ≤ l.length → ∀ (a : Int) (env : Env), look env 0 = some (.yld 0) → look env 2 = some (.ptr 2 0) → look env 6 = some (vsI l) →
    look env 7 = some (.d (.int .i64 l.length)) → look env 8 = some (.d (.int .i64 i)) → ∀ (Q : Ex → Env → St → Prop),
    (chain x a (l.drop i) = true → ∀ env' a', Q (.ex 0) env' ⟨[some (.cells [.d (.int .i64 x)]), some (.cells [.d (.bool false)]), some (.cells [.d (.int .i64 a')]), some (.cells [vsI l])], [none]⟩) →
    (chain x a (l.drop i) = false → ∀ env' a', Q .rt env' ⟨[some (.cells [.d (.int .i64 x)]), some (.cells [.d (.bool false)]), some (.cells [.d (.int .i64 a')]), some (.cells [vsI l])], [some .rt]⟩) →
    W TLS ⟨[some (recR e0)], 0⟩ L98 env ⟨[some (.cells [.d (.int .i64 x)]), some (.cells [.d (.bool false)]), some (.cells [.d (.int .i64 a)]), some (.cells [vsI l])], [none]⟩ Q := by
  intro k
  induction k with
  | zero =>
    intro i hk hi a env h0 h2 h6 h7 h8 Q hQ1 hQ2
    have hlt : ¬ i < l.length := by omega
    rw [L98_eq, W_loop]
    simp [-getElem?_pos, h0, h2, h6, h7, h8, hlt]
    exact hQ1 (by rw [List.drop_eq_nil_of_le (by omega)]; rfl) _ _
  | succ k ih =>
    intro i hk hi a env h0 h2 h6 h7 h8 Q hQ1 hQ2
    have hlt : i < l.length := by omega
    obtain ⟨n, hn⟩ : ∃ n, l[i]? = some n := ⟨_, List.getElem?_eq_getElem hlt⟩
    have hd : l.drop i = n :: l.drop (i + 1) := by rw [List.drop_eq_getElem_cons hlt]; congr 1; exact (List.getElem?_eq_some_iff.1 hn).2
    have hw := wrapN1 i (by omega)
    rw [L98_eq, W_loop]
    simp [-getElem?_pos, h0, h2, h6, h7, h8, hlt, rowsI_get, hn, -Int.natCast_add]
    refine WLC_yld (r := recR e0) rfl rfl rfl ?_
    simp [recR, bindPs, -getElem?_pos, g2, g4]
    all_goals (try (first | refine WLV_splitN (fun hs => ?_) (fun hs => ?_) | refine WLC_splitN (fun hs => ?_) (fun hs => ?_) | refine WLB_splitN (fun hs => ?_) (fun hs => ?_) | refine WLPV_splitN (fun hs => ?_) (fun hs => ?_) | refine WLPC_splitN (fun hs => ?_) (fun hs => ?_) | refine WLPV_split (fun hs => ?_) (fun hs => ?_) | refine WLPC_split (fun hs => ?_) (fun hs => ?_) | refine WLV_split (fun hs => ?_) (fun hs => ?_) | refine WLC_split (fun hs => ?_) (fun hs => ?_) | refine WLB_split (fun hs => ?_) (fun hs => ?_)))
    all_goals (try (have hs' := hs; simp at hs'))
    all_goals (try simp [*, -getElem?_pos, afterY, g2, g4, h0, h2, h6, h7, h8, hlt, -Int.natCast_add])
    · refine hQ2 ?_ _ _
      simp [hd, chain, *]
    · refine (WL_of (c := L98)).1 (ih (i + 1) (by omega) (by omega) n _ ?_ ?_ ?_ ?_ ?_ Q (fun hc => hQ1 ?_) (fun hc => hQ2 ?_))
      · simp [-getElem?_pos, h0]
      · simp [-getElem?_pos, h2]
      · simp [-getElem?_pos, h6]
      · simp [-getElem?_pos, h7]
      · simp [-getElem?_pos, hw, -Int.natCast_add]
      · simp [hd, chain, *]
      · simp [hd, chain, *]
theorem list_Right : Pure Tryd.prog 78 listRight_F := by
  refine con TLS_ok rfl rfl fun ⟨x, l⟩ hl => ⟨rfl, ?_⟩
  simp [cf78, -getElem?_pos, SI]
  refine WLC_fn (cf := cf89) rfl rfl rfl ?_
  simp [cf89, afterC, -getElem?_pos]
  refine WL_range (cf := cf121) rfl rfl rfl rfl ?_
  simp [cf121, -getElem?_pos, stepK.lenA, rowsI_length]
  rw [WL_code]
  refine sides_loop x l hl _ ?_ ?_ l.length 0 (by omega) (by omega) x _ ?_ ?_ ?_ ?_ ?_ _ (fun hc env' a' => ?_) (fun hc env' a' => ?_)
  all_goals (try (simp [-getElem?_pos]; done))
  · simp at hc
    simp [-getElem?_pos, afterR, stepK.lenA, rowsI_length, listRight, hc]
    omega
  · simp at hc
    simp [-getElem?_pos, afterR, listRight, hc]
noncomputable abbrev list_Right_F := listRight_F
end Go.Proofs.YtfifgiopdbdeoaaDoor.Lite
namespace Go.Proofs.YtfifgiopdbdeoaaDoor.Lite
open Go
attribute [local simp] WL_of WL_nil WL_blk WL_skip WL_label WL_exit WL_goto WL_seq WL_block WL_cond WL_reg WL_ret WJ_nil WJ_ex WJ_gt WJ_rt WJ_exb WJ_gtb WJ_rtb WLO_nil WLO_call WO_nw stepN WO_mv WO_pick WO_new WO_box WO_ld WO_ldn WO_st WO_off WO_ixa WO_ixs WO_fld WO_fldn WO_ixv WO_ixvn WO_ixb WO_bin WO_eqb WO_isn WO_eqs WO_not WO_conv WO_mkf WO_bld WO_bls WO_sla WO_sls WO_sl0 WO_len WO_app WO_mnx WO_ext WO_nilc wants_none wants_some wantv_b wantv_t WLV_true WLV_false WLC_false WLB_true WLB_false evX_t evX_c evXs_nil evXs_cons look_put look_putN look_cons look_arg0 look_arg stepK binOpA intOp strOp evRes oneOf outs gc toDV AV.dat? I Bo av_s List.map List.append_nil getO putO AV.cellsOf bne WL_dreg WLP_nil WLP_call WP_mv WP_pick WP_new WP_box WP_ld WP_ldn WP_off WP_ixa WP_ixs WP_fld WP_fldn WP_ixv WP_ixvn WP_ixb WP_bin WP_eqb WP_isn WP_eqs WP_not WP_conv WP_mkf WP_bld WP_bls WP_sla WP_sls WP_sl0 WP_len WP_app WP_mnx WP_ext WP_nilc WLPV_true WLPV_false WLPC_false WLC_tells WLPC_tells padH onNm onEx List.getElem?_cons_zero List.getElem?_cons_succ List.getElem?_nil restrict AV.lows lay AV.isCell lowObj AObj.lows WJ_nm AV.lows.go WL_scope onGt_rt onGt_nm onGt_ex WL_sreg WP_st preSt eraseB List.set_cons_zero List.set_cons_succ frz cutR cutAs cutA WL_sregT cutB cutBs

class Fact (p : Prop) : Prop where
  out : p

structure VW where
  id : Int
  base : List Int
  lst : List Int
  pred : Int
  fin : List Int
  hf : fin.length = 16
  hb : base.length < 9223372036854775808
  hl : lst.length < 9223372036854775808

def VW.dats (v : VW) : List Dat := .int .i64 v.id :: .sl (rowsI v.base) :: .sl (rowsI v.lst) :: .int .i64 v.pred :: v.fin.map (.int .i64)
def VW.cs (v : VW) : List AV := .d (.int .i64 v.id) :: vsI v.base :: vsI v.lst :: .d (.int .i64 v.pred) :: v.fin.map fun n => .d (.int .i64 n)
def V (v : VW) : DV := .g v.dats
theorem V_av (v : VW) : (V v).av = .agg v.cs := by simp [V, DV.av, VW.dats, VW.cs]
theorem VW.inj {v u : VW} (h : v.dats = u.dats) : v = u := by
  obtain ⟨a, b, c, d, e, _, _, _⟩ := v
  obtain ⟨a', b', c', d', e', _, _, _⟩ := u
  simp only [VW.dats, List.cons.injEq, Dat.int.injEq, true_and, Dat.sl.injEq] at h
  obtain ⟨rfl, h1, h2, rfl, h3⟩ := h
  have := rowsI_inj h1; subst this
  have := rowsI_inj h2; subst this
  have h4 : e = e' := by
    refine (List.map_inj_right ?_).1 h3
    intro x y hxy; simpa using hxy
  subst h4; rfl
theorem cs_length (v : VW) : v.cs.length = 20 := by simp [VW.cs, v.hf]
theorem cs_take (v : VW) : v.cs.take 20 = v.cs := List.take_of_length_le (by rw [cs_length]; exact Nat.le_refl _)
theorem cs_0 (v : VW) : v.cs[0]? = some (.d (.int .i64 v.id)) := rfl
theorem cs_1 (v : VW) : v.cs[1]? = some (vsI v.base) := rfl
theorem cs_2 (v : VW) : v.cs[2]? = some (vsI v.lst) := rfl
theorem cs_3 (v : VW) : v.cs[3]? = some (.d (.int .i64 v.pred)) := rfl
theorem cs_4 (v : VW) (i : Nat) : v.cs[4 + i]? = (v.fin[i]?).map fun n => .d (.int .i64 n) := by
  rw [Nat.add_comm]; simp [VW.cs]
theorem cs_fin (v : VW) : (v.cs.drop 4).take 16 = v.fin.map fun n => .d (.int .i64 n) := by
  show (v.fin.map _).take 16 = _
  exact List.take_of_length_le (by simp [v.hf])
theorem lows_ints (N M : Nat) : ∀ l : List Int, AV.lows.go N M (l.map fun n => .d (.int .i64 n)) = true
  | [] => rfl
  | n :: l => by simp [AV.lows.go, AV.lows, lows_ints N M l]
theorem cs_lows (v : VW) (N M : Nat) : AV.lows.go N M v.cs = true := by simp [VW.cs, AV.lows.go, AV.lows, lows_ints]
theorem go_all (N M : Nat) : ∀ l : List AV, l.all (AV.lows N M) = AV.lows.go N M l
  | [] => rfl
  | x :: l => by simp [AV.lows.go, go_all N M l]
theorem cs_all (v : VW) (N M : Nat) : v.cs.all (AV.lows N M) = true := by rw [go_all]; exact cs_lows v N M
theorem dats_ints : ∀ l : List Int, dats? (l.map fun n => .d (.int .i64 n)) = some (l.map (.int .i64))
  | [] => rfl
  | n :: l => by simp [dats?, AV.dat?, dats_ints l]
theorem cs_dats (v : VW) : dats? v.cs = some v.dats := by simp [VW.cs, VW.dats, dats?, AV.dat?, dats_ints]

def other (id n : Int) : Bool := n == -1 || (isPlace n && !(n == id))
noncomputable def other_F := orcOf (fun p : VW × Int => [V p.1, I p.2]) (fun _ => True) (fun p => [Bo (other p.1.id p.2)])
instance (v : VW) (n : Int) : Tells other_F [.agg v.cs, .d (.int .i64 n)] (.d (.bool (other v.id n))) :=
  ⟨[V v, I n], [Bo (other v.id n)], fun h => by simp [toDVs, toDV, cs_dats, AV.dat?, V, I], orcOf_eq (enc := fun p : VW × Int => [V p.1, I p.2]) (x := (v, n)) trivial (fun y h => by
    simp only [V, I, List.cons.injEq, DV.g.injEq, DV.s.injEq, Dat.int.injEq, true_and, and_true] at h
    exact Prod.ext (VW.inj h.1) h.2), rfl, rfl, fun _ _ => by simp [AV.lows, cs_lows]⟩
noncomputable def TO : Tbl := tbl [(50, garlandref13_place_F)]
theorem TO_ok : TblOK Tryd.prog TO := tbl_ok (by
  simp only [List.mem_cons, List.not_mem_nil, or_false]
  rintro p (rfl)
  · exact garlandref13_place)
instance : Has TO 50 garlandref13_place_F := ⟨rfl⟩

theorem garlandref13_other : Pure Tryd.prog 51 other_F := by
  refine con TO_ok rfl rfl fun ⟨v, n⟩ _ => ⟨rfl, ?_⟩
  simp [cf51, V_av, -getElem?_pos, cs_0, cs_lows, cs_all, other]
  all_goals (try (first | refine WLV_splitN (fun hs => ?_) (fun hs => ?_) | refine WLC_splitN (fun hs => ?_) (fun hs => ?_) | refine WLB_splitN (fun hs => ?_) (fun hs => ?_) | refine WLPV_splitN (fun hs => ?_) (fun hs => ?_) | refine WLPC_splitN (fun hs => ?_) (fun hs => ?_) | refine WLPV_split (fun hs => ?_) (fun hs => ?_) | refine WLPC_split (fun hs => ?_) (fun hs => ?_) | refine WLV_split (fun hs => ?_) (fun hs => ?_) | refine WLC_split (fun hs => ?_) (fun hs => ?_) | refine WLB_split (fun hs => ?_) (fun hs => ?_)))
  all_goals (try (have hs' := hs; simp at hs'))
  all_goals (try simp [*, -getElem?_pos, cs_0, cs_lows, cs_all])
  all_goals (try (first | refine WLV_splitN (fun hs => ?_) (fun hs => ?_) | refine WLC_splitN (fun hs => ?_) (fun hs => ?_) | refine WLB_splitN (fun hs => ?_) (fun hs => ?_) | refine WLPV_splitN (fun hs => ?_) (fun hs => ?_) | refine WLPC_splitN (fun hs => ?_) (fun hs => ?_) | refine WLPV_split (fun hs => ?_) (fun hs => ?_) | refine WLPC_split (fun hs => ?_) (fun hs => ?_) | refine WLV_split (fun hs => ?_) (fun hs => ?_) | refine WLC_split (fun hs => ?_) (fun hs => ?_) | refine WLB_split (fun hs => ?_) (fun hs => ?_)))
  all_goals (try (have hs' := hs; simp at hs'))
  all_goals (try simp [*, -getElem?_pos, cs_0, cs_lows, cs_all])
noncomputable abbrev garlandref13_other_F := other_F

def bAt (l : List Int) (j : Nat) (n : Int) : Bool := isPlace n && (j == 0 || decide (l.getD (j - 1) 0 < n))
noncomputable def TR13 : Tbl := tbl [(50, garlandref13_place_F), (26, garlandref12_Right_F), (51, garlandref13_other_F)]
theorem TR13_ok : TblOK Tryd.prog TR13 := tbl_ok (by
  simp only [List.mem_cons, List.not_mem_nil, or_false]
  rintro p (rfl | rfl | rfl)
  · exact garlandref13_place
  · exact garlandref12_Right
  · exact garlandref13_other)
instance : Has TR13 50 garlandref13_place_F := ⟨rfl⟩
instance : Has TR13 26 garlandref12_Right_F := ⟨rfl⟩
instance : Has TR13 51 garlandref13_other_F := ⟨rfl⟩

def L24a : CCode := (.loop [1, 3] (.seq (.seq (.reg (⟨(some 36), .mv (.t 3), none⟩ ::
    ⟨(some 37), .off 1 (.t 1), none⟩ ::
    ⟨(some 38), .ld (.t 37), none⟩ ::
    ⟨(some 39), .len false (.t 38), none⟩ ::
    ⟨(some 40), .bin .lss (.t 36) (.t 39), none⟩ ::
    []))
  (.cond (.t 40) .skip (.exit 0)))
  (.seq (.block 1 (.seq (.dreg (⟨(some 43), .off 1 (.t 1), none⟩ ::
    ⟨(some 44), .ld (.t 43), none⟩ ::
    ⟨(some 45), .mv (.t 3), none⟩ ::
    ⟨(some 46), .ixs 1 (.t 44) (.t 45), none⟩ ::
    ⟨(some 47), .ld (.t 46), none⟩ ::
    ⟨(some 48), .call (.c (.fn 50 [])) [(.t 47)], none⟩ ::
    ⟨(some 49), .not (.t 48), none⟩ ::
    ⟨(some 50), .mv (.t 49), none⟩ ::
    ⟨(some 51), .mv (.t 3), (some (50, false))⟩ ::
    ⟨(some 52), .bin .gtr (.t 51) (.c (.d (.int .i64 0))), (some (50, false))⟩ ::
    ⟨(some 53), .mv (.t 52), (some (50, false))⟩ ::
    ⟨(some 54), .off 1 (.t 1), (some (53, true))⟩ ::
    ⟨(some 55), .ld (.t 54), (some (53, true))⟩ ::
    ⟨(some 56), .mv (.t 3), (some (53, true))⟩ ::
    ⟨(some 57), .ixs 1 (.t 55) (.t 56), (some (53, true))⟩ ::
    ⟨(some 58), .ld (.t 57), (some (53, true))⟩ ::
    ⟨(some 59), .off 1 (.t 1), (some (53, true))⟩ ::
    ⟨(some 60), .ld (.t 59), (some (53, true))⟩ ::
    ⟨(some 61), .mv (.t 3), (some (53, true))⟩ ::
    ⟨(some 62), .bin .sub (.t 61) (.c (.d (.int .i64 1))), (some (53, true))⟩ ::
    ⟨(some 63), .ixs 1 (.t 60) (.t 62), (some (53, true))⟩ ::
    ⟨(some 64), .ld (.t 63), (some (53, true))⟩ ::
    ⟨(some 65), .bin .leq (.t 58) (.t 64), (some (53, true))⟩ ::
    ⟨(some 66), .pick (.t 53) (.t 65) (.c (.d (.bool false))), (some (50, false))⟩ ::
    ⟨(some 67), .pick (.t 50) (.c (.d (.bool true))) (.t 66), none⟩ ::
    []) ([]))
  (.cond (.t 67) (.seq (.reg (⟨(some 2), .mv (.c (.d (.bool false))), none⟩ ::
    []))
  .ret) .skip)))
  (.reg (⟨(some 41), .mv (.t 3), none⟩ ::
    ⟨(some 42), .bin .add (.t 41) (.c (.d (.int .i64 1))), none⟩ ::
    ⟨(some 3), .mv (.t 42), none⟩ ::
    [])))))
theorem L24a_eq : L24a = .loop [1, 3] (.seq (.seq (.reg (⟨(some 36), .mv (.t 3), none⟩ ::
    ⟨(some 37), .off 1 (.t 1), none⟩ ::
    ⟨(some 38), .ld (.t 37), none⟩ ::
    ⟨(some 39), .len false (.t 38), none⟩ ::
    ⟨(some 40), .bin .lss (.t 36) (.t 39), none⟩ ::
    []))
  (.cond (.t 40) .skip (.exit 0)))
  (.seq (.block 1 (.seq (.dreg (⟨(some 43), .off 1 (.t 1), none⟩ ::
    ⟨(some 44), .ld (.t 43), none⟩ ::
    ⟨(some 45), .mv (.t 3), none⟩ ::
    ⟨(some 46), .ixs 1 (.t 44) (.t 45), none⟩ ::
    ⟨(some 47), .ld (.t 46), none⟩ ::
    ⟨(some 48), .call (.c (.fn 50 [])) [(.t 47)], none⟩ ::
    ⟨(some 49), .not (.t 48), none⟩ ::
    ⟨(some 50), .mv (.t 49), none⟩ ::
    ⟨(some 51), .mv (.t 3), (some (50, false))⟩ ::
    ⟨(some 52), .bin .gtr (.t 51) (.c (.d (.int .i64 0))), (some (50, false))⟩ ::
    ⟨(some 53), .mv (.t 52), (some (50, false))⟩ ::
    ⟨(some 54), .off 1 (.t 1), (some (53, true))⟩ ::
    ⟨(some 55), .ld (.t 54), (some (53, true))⟩ ::
    ⟨(some 56), .mv (.t 3), (some (53, true))⟩ ::
    ⟨(some 57), .ixs 1 (.t 55) (.t 56), (some (53, true))⟩ ::
    ⟨(some 58), .ld (.t 57), (some (53, true))⟩ ::
    ⟨(some 59), .off 1 (.t 1), (some (53, true))⟩ ::
    ⟨(some 60), .ld (.t 59), (some (53, true))⟩ ::
    ⟨(some 61), .mv (.t 3), (some (53, true))⟩ ::
    ⟨(some 62), .bin .sub (.t 61) (.c (.d (.int .i64 1))), (some (53, true))⟩ ::
    ⟨(some 63), .ixs 1 (.t 60) (.t 62), (some (53, true))⟩ ::
    ⟨(some 64), .ld (.t 63), (some (53, true))⟩ ::
    ⟨(some 65), .bin .leq (.t 58) (.t 64), (some (53, true))⟩ ::
    ⟨(some 66), .pick (.t 53) (.t 65) (.c (.d (.bool false))), (some (50, false))⟩ ::
    ⟨(some 67), .pick (.t 50) (.c (.d (.bool true))) (.t 66), none⟩ ::
    []) ([]))
  (.cond (.t 67) (.seq (.reg (⟨(some 2), .mv (.c (.d (.bool false))), none⟩ ::
    []))
  .ret) .skip)))
  (.reg (⟨(some 41), .mv (.t 3), none⟩ ::
    ⟨(some 42), .bin .add (.t 41) (.c (.d (.int .i64 1))), none⟩ ::
    ⟨(some 3), .mv (.t 42), none⟩ ::
    [])))) := rfl
theorem base13_loop (v : VW) : ∀ (k i : Nat), v.base.length - i = k → i ≤ v.base.length → ∀ (env : Env), look env 1 = some (.ptr 0 0) → look env 3 = some (.d (.int .i64 i)) →
    ∀ (Q : Ex → Env → St → Prop), ((∀ j n, i ≤ j → v.base[j]? = some n → bAt v.base j n = true) → ∀ env', look env' 1 = some (.ptr 0 0) → Q (.ex 0) env' ⟨[some (.cells v.cs)], []⟩) →
      ((∃ j n, i ≤ j ∧ v.base[j]? = some n ∧ bAt v.base j n = false) → ∀ env' h', look env' 2 = some (.d (.bool false)) → Q .rt env' ⟨some (.cells v.cs) :: h', []⟩) → W TR13 ⟨[], 0⟩ L24a env ⟨[some (.cells v.cs)], []⟩ Q := by
  have hl := v.hb
  intro k
  induction k with
  | zero =>
    intro i hk hi env h1 h3 Q hQ1 hQ2
    have hlt : ¬ i < v.base.length := by omega
    rw [L24a_eq, W_loop]
    simp [-getElem?_pos, h1, h3, cs_1, stepK.lenA, rowsI_length, hlt]
    refine hQ1 (fun j n hj hn => absurd (List.getElem?_eq_some_iff.1 hn).1 (by omega)) _ ?_ <;> simp [-getElem?_pos, h1]
  | succ k ih =>
    intro i hk hi env h1 h3 Q hQ1 hQ2
    have hlt : i < v.base.length := by omega
    obtain ⟨n, hn⟩ : ∃ n, v.base[i]? = some n := ⟨_, List.getElem?_eq_getElem hlt⟩
    have bad : bAt v.base i n = false → ∃ j n, i ≤ j ∧ v.base[j]? = some n ∧ bAt v.base j n = false := fun h => ⟨i, n, Nat.le_refl _, hn, h⟩
    have hw := wrapN1 i (by omega)
    rw [L24a_eq, W_loop]
    cases i with
    | zero =>
      simp [-getElem?_pos, h1, h3, cs_1, stepK.lenA, rowsI_length, rowsI_get, hn, hlt]
      all_goals (try (first | refine WLV_splitN (fun hs => ?_) (fun hs => ?_) | refine WLC_splitN (fun hs => ?_) (fun hs => ?_) | refine WLB_splitN (fun hs => ?_) (fun hs => ?_) | refine WLPV_splitN (fun hs => ?_) (fun hs => ?_) | refine WLPC_splitN (fun hs => ?_) (fun hs => ?_) | refine WLPV_split (fun hs => ?_) (fun hs => ?_) | refine WLPC_split (fun hs => ?_) (fun hs => ?_) | refine WLV_split (fun hs => ?_) (fun hs => ?_) | refine WLC_split (fun hs => ?_) (fun hs => ?_) | refine WLB_split (fun hs => ?_) (fun hs => ?_)))
      all_goals (try (have hs' := hs; simp at hs'))
      all_goals (try simp [*, -getElem?_pos, h1, h3, cs_1, rowsI_get, hn, cs_all, cs_lows])
      all_goals (try (first | refine WLV_splitN (fun hs => ?_) (fun hs => ?_) | refine WLC_splitN (fun hs => ?_) (fun hs => ?_) | refine WLB_splitN (fun hs => ?_) (fun hs => ?_) | refine WLPV_splitN (fun hs => ?_) (fun hs => ?_) | refine WLPC_splitN (fun hs => ?_) (fun hs => ?_) | refine WLPV_split (fun hs => ?_) (fun hs => ?_) | refine WLPC_split (fun hs => ?_) (fun hs => ?_) | refine WLV_split (fun hs => ?_) (fun hs => ?_) | refine WLC_split (fun hs => ?_) (fun hs => ?_) | refine WLB_split (fun hs => ?_) (fun hs => ?_)))
      all_goals (try (have hs' := hs; simp at hs'))
      all_goals (try simp [*, -getElem?_pos, h1, h3, cs_1, rowsI_get, hn, cs_all, cs_lows])
      all_goals (try (first | refine WLV_splitN (fun hs => ?_) (fun hs => ?_) | refine WLC_splitN (fun hs => ?_) (fun hs => ?_) | refine WLB_splitN (fun hs => ?_) (fun hs => ?_) | refine WLPV_splitN (fun hs => ?_) (fun hs => ?_) | refine WLPC_splitN (fun hs => ?_) (fun hs => ?_) | refine WLPV_split (fun hs => ?_) (fun hs => ?_) | refine WLPC_split (fun hs => ?_) (fun hs => ?_) | refine WLV_split (fun hs => ?_) (fun hs => ?_) | refine WLC_split (fun hs => ?_) (fun hs => ?_) | refine WLB_split (fun hs => ?_) (fun hs => ?_)))
      all_goals (try (have hs' := hs; simp at hs'))
      all_goals (try simp [*, -getElem?_pos, h1, h3, cs_1, rowsI_get, hn, cs_all, cs_lows])
      all_goals first
        | (refine hQ2 (bad ?_) _ _ ?_ <;> simp [*, bAt, -getElem?_pos]; done)
        | (refine (WL_of (c := L24a)).1 (ih 1 (by omega) (by omega) _ ?_ ?_ Q (fun hall => hQ1 fun j m hj hm => ?_) (fun ⟨j, m, hj, h⟩ => hQ2 ⟨j, m, by omega, h⟩))
           · simp [-getElem?_pos, h1]
           · simp [-getElem?_pos]; rfl
           · cases j with
             | zero => rw [hn] at hm; cases hm; simp [*, bAt]
             | succ j => exact hall _ m (by omega) hm)
    | succ j =>
      obtain ⟨m, hm⟩ : ∃ m, v.base[j]? = some m := ⟨_, List.getElem?_eq_getElem (by omega)⟩
      have hw1 := wrapN j (by omega)
      have hgd : v.base.getD j 0 = m := by rw [List.getD_eq_getElem?_getD, hm]; rfl
      have e1 : ((↑(j + 1) : Int) - 1) = (j : Int) := by omega
      have e2 : (0 : Int) < ↑(j + 1) := by omega
      simp [-getElem?_pos, h1, h3, cs_1, stepK.lenA, rowsI_length, rowsI_get, hn, hlt, -Int.natCast_add]
      all_goals (try (first | refine WLV_splitN (fun hs => ?_) (fun hs => ?_) | refine WLC_splitN (fun hs => ?_) (fun hs => ?_) | refine WLB_splitN (fun hs => ?_) (fun hs => ?_) | refine WLPV_splitN (fun hs => ?_) (fun hs => ?_) | refine WLPC_splitN (fun hs => ?_) (fun hs => ?_) | refine WLPV_split (fun hs => ?_) (fun hs => ?_) | refine WLPC_split (fun hs => ?_) (fun hs => ?_) | refine WLV_split (fun hs => ?_) (fun hs => ?_) | refine WLC_split (fun hs => ?_) (fun hs => ?_) | refine WLB_split (fun hs => ?_) (fun hs => ?_)))
      all_goals (try (have hs' := hs; simp at hs'))
      all_goals (try simp [*, -getElem?_pos, h1, h3, cs_1, rowsI_get, hn, cs_all, cs_lows, -Int.natCast_add])
      all_goals (try (first | refine WLV_splitN (fun hs => ?_) (fun hs => ?_) | refine WLC_splitN (fun hs => ?_) (fun hs => ?_) | refine WLB_splitN (fun hs => ?_) (fun hs => ?_) | refine WLPV_splitN (fun hs => ?_) (fun hs => ?_) | refine WLPC_splitN (fun hs => ?_) (fun hs => ?_) | refine WLPV_split (fun hs => ?_) (fun hs => ?_) | refine WLPC_split (fun hs => ?_) (fun hs => ?_) | refine WLV_split (fun hs => ?_) (fun hs => ?_) | refine WLC_split (fun hs => ?_) (fun hs => ?_) | refine WLB_split (fun hs => ?_) (fun hs => ?_)))
      all_goals (try (have hs' := hs; simp at hs'))
      all_goals (try simp [*, -getElem?_pos, h1, h3, cs_1, rowsI_get, hn, cs_all, cs_lows, -Int.natCast_add])
      all_goals (try (first | refine WLV_splitN (fun hs => ?_) (fun hs => ?_) | refine WLC_splitN (fun hs => ?_) (fun hs => ?_) | refine WLB_splitN (fun hs => ?_) (fun hs => ?_) | refine WLPV_splitN (fun hs => ?_) (fun hs => ?_) | refine WLPC_splitN (fun hs => ?_) (fun hs => ?_) | refine WLPV_split (fun hs => ?_) (fun hs => ?_) | refine WLPC_split (fun hs => ?_) (fun hs => ?_) | refine WLV_split (fun hs => ?_) (fun hs => ?_) | refine WLC_split (fun hs => ?_) (fun hs => ?_) | refine WLB_split (fun hs => ?_) (fun hs => ?_)))
      all_goals (try (have hs' := hs; simp at hs'))
      all_goals (try simp [*, -getElem?_pos, h1, h3, cs_1, rowsI_get, hn, cs_all, cs_lows, -Int.natCast_add])
      all_goals (try (first | refine WLV_splitN (fun hs => ?_) (fun hs => ?_) | refine WLC_splitN (fun hs => ?_) (fun hs => ?_) | refine WLB_splitN (fun hs => ?_) (fun hs => ?_) | refine WLPV_splitN (fun hs => ?_) (fun hs => ?_) | refine WLPC_splitN (fun hs => ?_) (fun hs => ?_) | refine WLPV_split (fun hs => ?_) (fun hs => ?_) | refine WLPC_split (fun hs => ?_) (fun hs => ?_) | refine WLV_split (fun hs => ?_) (fun hs => ?_) | refine WLC_split (fun hs => ?_) (fun hs => ?_) | refine WLB_split (fun hs => ?_) (fun hs => ?_)))
      all_goals (try (have hs' := hs; simp at hs'))
      all_goals (try simp [*, -getElem?_pos, h1, h3, cs_1, rowsI_get, hn, cs_all, cs_lows, -Int.natCast_add])
      all_goals first
        | (refine hQ2 (bad ?_) _ _ ?_ <;> simp [*, bAt, -getElem?_pos]; done)
        | (refine (WL_of (c := L24a)).1 (ih (j + 1 + 1) (by omega) (by omega) _ ?_ ?_ Q (fun hall => hQ1 fun i m' hi hm' => ?_) (fun ⟨i, m', hi, h⟩ => hQ2 ⟨i, m', by omega, h⟩))
           · simp [-getElem?_pos, h1]
           · simp [-getElem?_pos, hw, -Int.natCast_add]
           · rcases Nat.lt_or_ge (j + 1) i with h | h
             · exact hall _ m' (by omega) hm'
             · have : i = j + 1 := by omega
               subst this
               rw [hn] at hm'; cases hm'; simp [*, bAt])

theorem cs_4i (v : VW) (i : Nat) : v.cs[4 + i]? = (v.fin[i]?).map fun n => .d (.int .i64 n) := cs_4 v i
def L24b : CCode := (.loop [1, 4] (.seq (.seq (.reg (⟨(some 68), .mv (.t 4), none⟩ ::
    ⟨(some 69), .bin .lss (.t 68) (.c (.d (.int .i64 16))), none⟩ ::
    []))
  (.cond (.t 69) .skip (.exit 2)))
  (.seq (.block 3 (.seq (.dreg (⟨(some 72), .ldn 20 (.t 1), none⟩ ::
    ⟨(some 73), .mv (.t 4), none⟩ ::
    ⟨(some 74), .off 4 (.t 1), none⟩ ::
    ⟨(some 75), .ixa 16 1 (.t 74) (.t 73), none⟩ ::
    ⟨(some 76), .ld (.t 75), none⟩ ::
    []) (⟨(some 77), .call (.c (.fn 51 [])) [(.t 72), (.t 76)], none⟩ ::
    ⟨(some 78), .not (.t 77), none⟩ ::
    []))
  (.cond (.t 78) (.seq (.reg (⟨(some 2), .mv (.c (.d (.bool false))), none⟩ ::
    []))
  .ret) .skip)))
  (.reg (⟨(some 70), .mv (.t 4), none⟩ ::
    ⟨(some 71), .bin .add (.t 70) (.c (.d (.int .i64 1))), none⟩ ::
    ⟨(some 4), .mv (.t 71), none⟩ ::
    [])))))
theorem L24b_eq : L24b = .loop [1, 4] (.seq (.seq (.reg (⟨(some 68), .mv (.t 4), none⟩ ::
    ⟨(some 69), .bin .lss (.t 68) (.c (.d (.int .i64 16))), none⟩ ::
    []))
  (.cond (.t 69) .skip (.exit 2)))
  (.seq (.block 3 (.seq (.dreg (⟨(some 72), .ldn 20 (.t 1), none⟩ ::
    ⟨(some 73), .mv (.t 4), none⟩ ::
    ⟨(some 74), .off 4 (.t 1), none⟩ ::
    ⟨(some 75), .ixa 16 1 (.t 74) (.t 73), none⟩ ::
    ⟨(some 76), .ld (.t 75), none⟩ ::
    []) (⟨(some 77), .call (.c (.fn 51 [])) [(.t 72), (.t 76)], none⟩ ::
    ⟨(some 78), .not (.t 77), none⟩ ::
    []))
  (.cond (.t 78) (.seq (.reg (⟨(some 2), .mv (.c (.d (.bool false))), none⟩ ::
    []))
  .ret) .skip)))
  (.reg (⟨(some 70), .mv (.t 4), none⟩ ::
    ⟨(some 71), .bin .add (.t 70) (.c (.d (.int .i64 1))), none⟩ ::
    ⟨(some 4), .mv (.t 71), none⟩ ::
    [])))) := rfl
theorem fin13_loop (v : VW) : ∀ (k i : Nat), 16 - i = k → i ≤ 16 → ∀ (env : Env), look env 1 = some (.ptr 0 0) → look env 4 = some (.d (.int .i64 i)) →
    ∀ (Q : Ex → Env → St → Prop), ((∀ n ∈ v.fin.drop i, other v.id n = true) → ∀ env', look env' 1 = some (.ptr 0 0) → Q (.ex 2) env' ⟨[some (.cells v.cs)], []⟩) →
      ((∃ n ∈ v.fin.drop i, other v.id n = false) → ∀ env' h', look env' 2 = some (.d (.bool false)) → Q .rt env' ⟨some (.cells v.cs) :: h', []⟩) → W TR13 ⟨[], 0⟩ L24b env ⟨[some (.cells v.cs)], []⟩ Q := by
  have hf := v.hf
  intro k
  induction k with
  | zero =>
    intro i hk hi env h1 h4 Q hQ1 hQ2
    have hlt : ¬ i < 16 := by omega
    rw [L24b_eq, W_loop]
    have e : ¬ ((i : Int) < 16) := by omega
    simp [-getElem?_pos, h1, h4, hlt, e]
    refine hQ1 (fun n hn => ?_) _ ?_
    · rw [List.drop_eq_nil_of_le (by omega)] at hn; cases hn
    · simp [-getElem?_pos, h1]
  | succ k ih =>
    intro i hk hi env h1 h4 Q hQ1 hQ2
    have hlt : i < 16 := by omega
    obtain ⟨n, hn⟩ : ∃ n, v.fin[i]? = some n := ⟨_, List.getElem?_eq_getElem (by omega)⟩
    have hd : v.fin.drop i = n :: v.fin.drop (i + 1) := by rw [List.drop_eq_getElem_cons (by omega)]; congr 1; exact (List.getElem?_eq_some_iff.1 hn).2
    have hw := wrapN1 i (by omega)
    have e : ((i : Int) < 16) := by omega
    rw [L24b_eq, W_loop]
    simp [-getElem?_pos, h1, h4, hlt, e, cs_4i, hn, cs_length, cs_take, cs_all, cs_lows, -Int.natCast_add]
    all_goals (try (first | refine WLV_splitN (fun hs => ?_) (fun hs => ?_) | refine WLC_splitN (fun hs => ?_) (fun hs => ?_) | refine WLB_splitN (fun hs => ?_) (fun hs => ?_) | refine WLPV_splitN (fun hs => ?_) (fun hs => ?_) | refine WLPC_splitN (fun hs => ?_) (fun hs => ?_) | refine WLPV_split (fun hs => ?_) (fun hs => ?_) | refine WLPC_split (fun hs => ?_) (fun hs => ?_) | refine WLV_split (fun hs => ?_) (fun hs => ?_) | refine WLC_split (fun hs => ?_) (fun hs => ?_) | refine WLB_split (fun hs => ?_) (fun hs => ?_)))
    all_goals (try (have hs' := hs; simp at hs'))
    all_goals (try simp [*, -getElem?_pos, h1, h4, hn, cs_all, cs_lows, -Int.natCast_add])
    all_goals first
      | (refine hQ2 ⟨n, by rw [hd]; simp, ?_⟩ _ _ ?_ <;> simp [*, -getElem?_pos]; done)
      | (refine (WL_of (c := L24b)).1 (ih (i + 1) (by omega) (by omega) _ ?_ ?_ Q (fun hall => hQ1 fun m hm => ?_) (fun ⟨m, hm, h⟩ => hQ2 ⟨m, by rw [hd]; exact List.mem_cons_of_mem _ hm, h⟩))
         · simp [-getElem?_pos, h1]
         · simp [-getElem?_pos, hw, -Int.natCast_add]
         · rw [hd] at hm
           rcases List.mem_cons.1 hm with rfl | hm
           · assumption
           · exact hall m hm)

/-! ### which views may be -/
def baseOk (l : List Int) : Bool := (List.range l.length).all fun j => bAt l j (l.getD j 0)
theorem baseOk_iff (l : List Int) : baseOk l = true ↔ ∀ j n, l[j]? = some n → bAt l j n = true := by
  unfold baseOk
  rw [List.all_eq_true]
  constructor
  · intro h j n hn
    have := h j (List.mem_range.2 (List.getElem?_eq_some_iff.1 hn).1)
    rwa [List.getD_eq_getElem?_getD, hn] at this
  · intro h j hj
    rw [List.mem_range] at hj
    have hn : l[j]? = some l[j] := List.getElem?_eq_getElem hj
    have := h j _ hn
    rwa [List.getD_eq_getElem?_getD, hn]
def VW.right (v : VW) : Bool := isPlace v.id && decide (2 ≤ v.base.length) && decide (v.base.length ≤ 4) && listRight v.id v.lst && other v.id v.pred && baseOk v.base && v.fin.all (other v.id)
noncomputable def right_F := orcOf (fun v : VW => [V v]) (fun _ => True) (fun v => [Bo v.right])
instance (v : VW) : Tells right_F [.agg v.cs] (.d (.bool v.right)) :=
  ⟨[V v], [Bo v.right], fun h => by simp [toDVs, toDV, cs_dats, V], orcOf_eq (enc := fun v : VW => [V v]) (x := v) trivial (fun y h => by
    simp only [V, List.cons.injEq, DV.g.injEq, and_true] at h
    exact VW.inj h), rfl, rfl, fun _ _ => by simp [AV.lows, cs_lows]⟩
instance (x : Int) (l : List Int) [h : Fact (l.length < 9223372036854775808)] : Tells listRight_F [.d (.int .i64 x), .d (.sl (rowsI l))] (.d (.bool (listRight x l))) :=
  ⟨[I x, SI l], [Bo (listRight x l)], fun h => by simp [toDVs, toDV, AV.dat?, I, SI], orcOf_eq (enc := fun p : Int × List Int => [I p.1, SI p.2]) (x := (x, l)) h.out (fun y h => by
    simp only [I, SI, List.cons.injEq, DV.s.injEq, Dat.int.injEq, Dat.sl.injEq, true_and, and_true] at h
    exact Prod.ext h.1 (rowsI_inj h.2)), rfl, rfl, fun _ _ => rfl⟩
instance (v : VW) : Fact (v.lst.length < 9223372036854775808) := ⟨v.hl⟩
instance (v : VW) : Fact (v.base.length < 9223372036854775808) := ⟨v.hb⟩

theorem garlandref13_Right : Pure Tryd.prog 22 right_F := by
  refine con TR13_ok rfl rfl fun v _ => ⟨rfl, ?_⟩
  simp [cf22, V_av, -getElem?_pos, cs_0, cs_1, cs_2, cs_3, cs_length, cs_take, cs_lows, cs_all, stepK.lenA, rowsI_length]
  all_goals (try (first | refine WLV_splitN (fun hs => ?_) (fun hs => ?_) | refine WLC_splitN (fun hs => ?_) (fun hs => ?_) | refine WLB_splitN (fun hs => ?_) (fun hs => ?_) | refine WLPV_splitN (fun hs => ?_) (fun hs => ?_) | refine WLPC_splitN (fun hs => ?_) (fun hs => ?_) | refine WLPV_split (fun hs => ?_) (fun hs => ?_) | refine WLPC_split (fun hs => ?_) (fun hs => ?_) | refine WLV_split (fun hs => ?_) (fun hs => ?_) | refine WLC_split (fun hs => ?_) (fun hs => ?_) | refine WLB_split (fun hs => ?_) (fun hs => ?_)))
  all_goals (try (have hs' := hs; simp at hs'))
  all_goals (try simp [*, -getElem?_pos, cs_0, cs_1, cs_2, cs_3, cs_length, cs_take, cs_lows, cs_all, stepK.lenA, rowsI_length])
  all_goals (try (first | refine WLV_splitN (fun hs => ?_) (fun hs => ?_) | refine WLC_splitN (fun hs => ?_) (fun hs => ?_) | refine WLB_splitN (fun hs => ?_) (fun hs => ?_) | refine WLPV_splitN (fun hs => ?_) (fun hs => ?_) | refine WLPC_splitN (fun hs => ?_) (fun hs => ?_) | refine WLPV_split (fun hs => ?_) (fun hs => ?_) | refine WLPC_split (fun hs => ?_) (fun hs => ?_) | refine WLV_split (fun hs => ?_) (fun hs => ?_) | refine WLC_split (fun hs => ?_) (fun hs => ?_) | refine WLB_split (fun hs => ?_) (fun hs => ?_)))
  all_goals (try (have hs' := hs; simp at hs'))
  all_goals (try simp [*, -getElem?_pos, cs_0, cs_1, cs_2, cs_3, cs_length, cs_take, cs_lows, cs_all, stepK.lenA, rowsI_length])
  all_goals (try (first | refine WLV_splitN (fun hs => ?_) (fun hs => ?_) | refine WLC_splitN (fun hs => ?_) (fun hs => ?_) | refine WLB_splitN (fun hs => ?_) (fun hs => ?_) | refine WLPV_splitN (fun hs => ?_) (fun hs => ?_) | refine WLPC_splitN (fun hs => ?_) (fun hs => ?_) | refine WLPV_split (fun hs => ?_) (fun hs => ?_) | refine WLPC_split (fun hs => ?_) (fun hs => ?_) | refine WLV_split (fun hs => ?_) (fun hs => ?_) | refine WLC_split (fun hs => ?_) (fun hs => ?_) | refine WLB_split (fun hs => ?_) (fun hs => ?_)))
  all_goals (try (have hs' := hs; simp at hs'))
  all_goals (try simp [*, -getElem?_pos, cs_0, cs_1, cs_2, cs_3, cs_length, cs_take, cs_lows, cs_all, stepK.lenA, rowsI_length])
  all_goals (try (first | refine WLV_splitN (fun hs => ?_) (fun hs => ?_) | refine WLC_splitN (fun hs => ?_) (fun hs => ?_) | refine WLB_splitN (fun hs => ?_) (fun hs => ?_) | refine WLPV_splitN (fun hs => ?_) (fun hs => ?_) | refine WLPC_splitN (fun hs => ?_) (fun hs => ?_) | refine WLPV_split (fun hs => ?_) (fun hs => ?_) | refine WLPC_split (fun hs => ?_) (fun hs => ?_) | refine WLV_split (fun hs => ?_) (fun hs => ?_) | refine WLC_split (fun hs => ?_) (fun hs => ?_) | refine WLB_split (fun hs => ?_) (fun hs => ?_)))
  all_goals (try (have hs' := hs; simp at hs'))
  all_goals (try simp [*, -getElem?_pos, cs_0, cs_1, cs_2, cs_3, cs_length, cs_take, cs_lows, cs_all, stepK.lenA, rowsI_length])
  all_goals (try (first | refine WLV_splitN (fun hs => ?_) (fun hs => ?_) | refine WLC_splitN (fun hs => ?_) (fun hs => ?_) | refine WLB_splitN (fun hs => ?_) (fun hs => ?_) | refine WLPV_splitN (fun hs => ?_) (fun hs => ?_) | refine WLPC_splitN (fun hs => ?_) (fun hs => ?_) | refine WLPV_split (fun hs => ?_) (fun hs => ?_) | refine WLPC_split (fun hs => ?_) (fun hs => ?_) | refine WLV_split (fun hs => ?_) (fun hs => ?_) | refine WLC_split (fun hs => ?_) (fun hs => ?_) | refine WLB_split (fun hs => ?_) (fun hs => ?_)))
  all_goals (try (have hs' := hs; simp at hs'))
  all_goals (try simp [*, -getElem?_pos, cs_0, cs_1, cs_2, cs_3, cs_length, cs_take, cs_lows, cs_all, stepK.lenA, rowsI_length])
  all_goals try (first | (simp [VW.right, *]; done) | (have h3 : v.right = false := (by unfold VW.right; simp; omega); exact h3))
  rw [WL_code]
  have e2 : 2 ≤ v.base.length := by omega
  have e4 : v.base.length ≤ 4 := by omega
  refine base13_loop v v.base.length 0 (by omega) (by omega) _ ?_ ?_ _ (fun hall env' h1 => ?_) (fun hbad env' h' h2 => ?_)
  · simp [-getElem?_pos]
  · simp [-getElem?_pos]
  · simp [-getElem?_pos, h1]
    rw [WL_code]
    have hbo : baseOk v.base = true := (baseOk_iff _).2 fun j n hn => hall j n (Nat.zero_le _) hn
    refine fin13_loop v 16 0 (by omega) (by omega) _ ?_ ?_ _ (fun hall2 env2 h12 => ?_) (fun hbad2 env2 h' h22 => ?_)
    · simp [-getElem?_pos, h1]
    · simp [-getElem?_pos]
    · have hfa : v.fin.all (other v.id) = true := by rw [List.all_eq_true]; exact fun n hn => hall2 n (by simpa using hn)
      simp [-getElem?_pos, h12]
      simp [VW.right, *]
    · have hfa : v.fin.all (other v.id) = false := by
        obtain ⟨n, hn, hb⟩ := hbad2
        cases h : v.fin.all (other v.id) with
        | false => rfl
        | true => rw [List.all_eq_true.1 h n (by simpa using hn)] at hb; cases hb
      simp [-getElem?_pos, h22]
      simp only [VW.right, hfa, Bool.and_false]
  · have hbo : baseOk v.base = false := by
      obtain ⟨j, n, _, hn, hb⟩ := hbad
      cases h : baseOk v.base with
      | false => rfl
      | true => rw [(baseOk_iff _).1 h j n hn] at hb; cases hb
    simp [-getElem?_pos, h2]
    simp only [VW.right, hbo, Bool.and_false, Bool.false_and]
noncomputable abbrev garlandref13_Right_F := right_F
end Go.Proofs.YtfifgiopdbdeoaaDoor.Lite
namespace Go.Proofs.YtfifgiopdbdeoaaDoor.Lite
open Go
attribute [local simp] WL_of WL_nil WL_blk WL_skip WL_label WL_exit WL_goto WL_seq WL_block WL_cond WL_reg WL_ret WJ_nil WJ_ex WJ_gt WJ_rt WJ_exb WJ_gtb WJ_rtb WLO_nil WLO_call WO_nw stepN WO_mv WO_pick WO_new WO_box WO_ld WO_ldn WO_st WO_off WO_ixa WO_ixs WO_fld WO_fldn WO_ixv WO_ixvn WO_ixb WO_bin WO_eqb WO_isn WO_eqs WO_not WO_conv WO_mkf WO_bld WO_bls WO_sla WO_sls WO_sl0 WO_len WO_app WO_mnx WO_ext WO_nilc wants_none wants_some wantv_b wantv_t WLV_true WLV_false WLC_false WLB_true WLB_false evX_t evX_c evXs_nil evXs_cons look_put look_putN look_cons look_arg0 look_arg stepK binOpA intOp strOp evRes oneOf outs gc toDV AV.dat? I Bo av_s List.map List.append_nil getO putO AV.cellsOf bne WL_dreg WLP_nil WLP_call WP_mv WP_pick WP_new WP_box WP_ld WP_ldn WP_off WP_ixa WP_ixs WP_fld WP_fldn WP_ixv WP_ixvn WP_ixb WP_bin WP_eqb WP_isn WP_eqs WP_not WP_conv WP_mkf WP_bld WP_bls WP_sla WP_sls WP_sl0 WP_len WP_app WP_mnx WP_ext WP_nilc WLPV_true WLPV_false WLPC_false WLC_tells WLPC_tells padH onNm onEx List.getElem?_cons_zero List.getElem?_cons_succ List.getElem?_nil restrict AV.lows lay AV.isCell lowObj AObj.lows WJ_nm AV.lows.go WL_scope onGt_rt onGt_nm onGt_ex WL_sreg WP_st preSt eraseB List.set_cons_zero List.set_cons_succ frz cutR cutAs cutA WL_sregT cutB cutBs

noncomputable def TVR : Tbl := tbl [(77, view_place_F), (78, list_Right_F)]
theorem TVR_ok : TblOK Tryd.prog TVR := tbl_ok (by
  simp only [List.mem_cons, List.not_mem_nil, or_false]
  rintro p (rfl | rfl)
  · exact view_place
  · exact list_Right)
instance : Has TVR 77 view_place_F := ⟨rfl⟩
instance : Has TVR 78 list_Right_F := ⟨rfl⟩

theorem other_clo (v : VW) {rd : Rd} {env : Env} {Q : Ex → Env → St → Prop} {dst : Option Nat} {os : List COp} {fs : List Fr} {n : Int} (h : WLO TVR rd os fs (putE env dst (.d (.bool (other v.id n)))) ⟨[some (.cells v.cs)], []⟩ Q) :
    WLC TVR rd (some true) (some (.fn 76 [.ptr 0 0])) (some [.d (.int .i64 n)]) dst os fs env ⟨[some (.cells v.cs)], []⟩ Q := by
  refine WLC_fn (cf := cf76) rfl rfl rfl ?_
  simp [cf76, afterC, -getElem?_pos, cs_0]
  all_goals (try (first | refine WLV_splitN (fun hs => ?_) (fun hs => ?_) | refine WLC_splitN (fun hs => ?_) (fun hs => ?_) | refine WLB_splitN (fun hs => ?_) (fun hs => ?_) | refine WLPV_splitN (fun hs => ?_) (fun hs => ?_) | refine WLPC_splitN (fun hs => ?_) (fun hs => ?_) | refine WLPV_split (fun hs => ?_) (fun hs => ?_) | refine WLPC_split (fun hs => ?_) (fun hs => ?_) | refine WLV_split (fun hs => ?_) (fun hs => ?_) | refine WLC_split (fun hs => ?_) (fun hs => ?_) | refine WLB_split (fun hs => ?_) (fun hs => ?_)))
  all_goals (try (have hs' := hs; simp at hs'))
  all_goals (try simp [*, -getElem?_pos, afterC, cs_0, cs_lows, cs_all])
  all_goals (try (first | refine WLV_splitN (fun hs => ?_) (fun hs => ?_) | refine WLC_splitN (fun hs => ?_) (fun hs => ?_) | refine WLB_splitN (fun hs => ?_) (fun hs => ?_) | refine WLPV_splitN (fun hs => ?_) (fun hs => ?_) | refine WLPC_splitN (fun hs => ?_) (fun hs => ?_) | refine WLPV_split (fun hs => ?_) (fun hs => ?_) | refine WLPC_split (fun hs => ?_) (fun hs => ?_) | refine WLV_split (fun hs => ?_) (fun hs => ?_) | refine WLC_split (fun hs => ?_) (fun hs => ?_) | refine WLB_split (fun hs => ?_) (fun hs => ?_)))
  all_goals (try (have hs' := hs; simp at hs'))
  all_goals (try simp [*, -getElem?_pos, afterC, cs_0, cs_lows, cs_all])
  all_goals (try (first | refine WLV_splitN (fun hs => ?_) (fun hs => ?_) | refine WLC_splitN (fun hs => ?_) (fun hs => ?_) | refine WLB_splitN (fun hs => ?_) (fun hs => ?_) | refine WLPV_splitN (fun hs => ?_) (fun hs => ?_) | refine WLPC_splitN (fun hs => ?_) (fun hs => ?_) | refine WLPV_split (fun hs => ?_) (fun hs => ?_) | refine WLPC_split (fun hs => ?_) (fun hs => ?_) | refine WLV_split (fun hs => ?_) (fun hs => ?_) | refine WLC_split (fun hs => ?_) (fun hs => ?_) | refine WLB_split (fun hs => ?_) (fun hs => ?_)))
  all_goals (try (have hs' := hs; simp at hs'))
  all_goals (try simp [*, -getElem?_pos, afterC, cs_0, cs_lows, cs_all])
  all_goals (unfold other at h; simp only [*, Bool.true_and, Bool.false_and, Bool.or_false, Bool.true_or, Bool.false_or] at h; exact h)

def K52a : CCode := (.loop [1, 4, 41, 42, 43] (.seq (.reg (⟨(some 44), .bin .lss (.t 43) (.t 42), none⟩ ::
    []))
  (.seq (.cond (.t 44) .skip (.exit 0))
  (.seq (.block 1 (.seq (.reg (⟨(some 45), .mv (.t 43), none⟩ ::
    ⟨(some 46), .ixs 1 (.t 41) (.t 43), none⟩ ::
    ⟨(some 47), .ld (.t 46), none⟩ ::
    ⟨(some 5), .mv (.t 45), none⟩ ::
    ⟨(some 6), .mv (.t 47), none⟩ ::
    []))
  (.seq (.reg (⟨(some 48), .mv (.t 6), none⟩ ::
    ⟨(some 49), .call (.c (.fn 77 [])) [(.t 48)], none⟩ ::
    ⟨(some 50), .not (.t 49), none⟩ ::
    ⟨(some 51), .mv (.t 50), none⟩ ::
    ⟨(some 52), .mv (.t 5), (some (51, false))⟩ ::
    ⟨(some 53), .bin .gtr (.t 52) (.c (.d (.int .i64 0))), (some (51, false))⟩ ::
    ⟨(some 54), .mv (.t 53), (some (51, false))⟩ ::
    ⟨(some 55), .mv (.t 6), (some (54, true))⟩ ::
    ⟨(some 56), .off 1 (.t 1), (some (54, true))⟩ ::
    ⟨(some 57), .ld (.t 56), (some (54, true))⟩ ::
    ⟨(some 58), .mv (.t 5), (some (54, true))⟩ ::
    ⟨(some 59), .bin .sub (.t 58) (.c (.d (.int .i64 1))), (some (54, true))⟩ ::
    ⟨(some 60), .ixs 1 (.t 57) (.t 59), (some (54, true))⟩ ::
    ⟨(some 61), .ld (.t 60), (some (54, true))⟩ ::
    ⟨(some 62), .bin .leq (.t 55) (.t 61), (some (54, true))⟩ ::
    ⟨(some 63), .pick (.t 54) (.t 62) (.c (.d (.bool false))), (some (51, false))⟩ ::
    ⟨(some 64), .pick (.t 51) (.c (.d (.bool true))) (.t 63), none⟩ ::
    []))
  (.cond (.t 64) (.goto 0) .skip))))
  (.reg (⟨(some 65), .bin .add (.t 43) (.c (.d (.int .i64 1))), none⟩ ::
    ⟨(some 43), .mv (.t 65), none⟩ ::
    []))))))
theorem K52a_eq : K52a = .loop [1, 4, 41, 42, 43] (.seq (.reg (⟨(some 44), .bin .lss (.t 43) (.t 42), none⟩ ::
    []))
  (.seq (.cond (.t 44) .skip (.exit 0))
  (.seq (.block 1 (.seq (.reg (⟨(some 45), .mv (.t 43), none⟩ ::
    ⟨(some 46), .ixs 1 (.t 41) (.t 43), none⟩ ::
    ⟨(some 47), .ld (.t 46), none⟩ ::
    ⟨(some 5), .mv (.t 45), none⟩ ::
    ⟨(some 6), .mv (.t 47), none⟩ ::
    []))
  (.seq (.reg (⟨(some 48), .mv (.t 6), none⟩ ::
    ⟨(some 49), .call (.c (.fn 77 [])) [(.t 48)], none⟩ ::
    ⟨(some 50), .not (.t 49), none⟩ ::
    ⟨(some 51), .mv (.t 50), none⟩ ::
    ⟨(some 52), .mv (.t 5), (some (51, false))⟩ ::
    ⟨(some 53), .bin .gtr (.t 52) (.c (.d (.int .i64 0))), (some (51, false))⟩ ::
    ⟨(some 54), .mv (.t 53), (some (51, false))⟩ ::
    ⟨(some 55), .mv (.t 6), (some (54, true))⟩ ::
    ⟨(some 56), .off 1 (.t 1), (some (54, true))⟩ ::
    ⟨(some 57), .ld (.t 56), (some (54, true))⟩ ::
    ⟨(some 58), .mv (.t 5), (some (54, true))⟩ ::
    ⟨(some 59), .bin .sub (.t 58) (.c (.d (.int .i64 1))), (some (54, true))⟩ ::
    ⟨(some 60), .ixs 1 (.t 57) (.t 59), (some (54, true))⟩ ::
    ⟨(some 61), .ld (.t 60), (some (54, true))⟩ ::
    ⟨(some 62), .bin .leq (.t 55) (.t 61), (some (54, true))⟩ ::
    ⟨(some 63), .pick (.t 54) (.t 62) (.c (.d (.bool false))), (some (51, false))⟩ ::
    ⟨(some 64), .pick (.t 51) (.c (.d (.bool true))) (.t 63), none⟩ ::
    []))
  (.cond (.t 64) (.goto 0) .skip))))
  (.reg (⟨(some 65), .bin .add (.t 43) (.c (.d (.int .i64 1))), none⟩ ::
    ⟨(some 43), .mv (.t 65), none⟩ ::
    []))))) := rfl
theorem base52_loop (v : VW) : ∀ (k i : Nat), v.base.length - i = k → i ≤ v.base.length → ∀ (env : Env), look env 1 = some (.ptr 0 0) → look env 4 = some (.fn 76 [.ptr 0 0]) → look env 41 = some (vsI v.base) → look env 42 = some (.d (.int .i64 v.base.length)) → look env 43 = some (.d (.int .i64 i)) →
    ∀ (Q : Ex → Env → St → Prop), ((∀ j n, i ≤ j → v.base[j]? = some n → bAt v.base j n = true) → ∀ env', look env' 1 = some (.ptr 0 0) → look env' 4 = some (.fn 76 [.ptr 0 0]) → Q (.ex 0) env' ⟨[some (.cells v.cs)], []⟩) →
      ((∃ j n, i ≤ j ∧ v.base[j]? = some n ∧ bAt v.base j n = false) → ∀ env', Q (.gt 0) env' ⟨[some (.cells v.cs)], []⟩) → W TVR ⟨[], 0⟩ K52a env ⟨[some (.cells v.cs)], []⟩ Q := by
  have hl := v.hb
  intro k
  induction k with
  | zero =>
    intro i hk hi env h1 h4 h41 h42 h43 Q hQ1 hQ2
    have hlt : ¬ i < v.base.length := by omega
    rw [K52a_eq, W_loop]
    simp [-getElem?_pos, h1, h4, h41, h42, h43, hlt]
    refine hQ1 (fun j n hj hn => absurd (List.getElem?_eq_some_iff.1 hn).1 (by omega)) _ ?_ ?_ <;> simp [-getElem?_pos, h1, h4]
  | succ k ih =>
    intro i hk hi env h1 h4 h41 h42 h43 Q hQ1 hQ2
    have hlt : i < v.base.length := by omega
    obtain ⟨n, hn⟩ : ∃ n, v.base[i]? = some n := ⟨_, List.getElem?_eq_getElem hlt⟩
    have bad : bAt v.base i n = false → ∃ j n, i ≤ j ∧ v.base[j]? = some n ∧ bAt v.base j n = false := fun h => ⟨i, n, Nat.le_refl _, hn, h⟩
    have hw := wrapN1 i (by omega)
    rw [K52a_eq, W_loop]
    cases i with
    | zero =>
      simp [-getElem?_pos, h1, h4, h41, h42, h43, cs_1, rowsI_get, hn, hlt]
      all_goals (try (first | refine WLV_splitN (fun hs => ?_) (fun hs => ?_) | refine WLC_splitN (fun hs => ?_) (fun hs => ?_) | refine WLB_splitN (fun hs => ?_) (fun hs => ?_) | refine WLPV_splitN (fun hs => ?_) (fun hs => ?_) | refine WLPC_splitN (fun hs => ?_) (fun hs => ?_) | refine WLPV_split (fun hs => ?_) (fun hs => ?_) | refine WLPC_split (fun hs => ?_) (fun hs => ?_) | refine WLV_split (fun hs => ?_) (fun hs => ?_) | refine WLC_split (fun hs => ?_) (fun hs => ?_) | refine WLB_split (fun hs => ?_) (fun hs => ?_)))
      all_goals (try (have hs' := hs; simp at hs'))
      all_goals (try simp [*, -getElem?_pos, h1, h4, h41, h42, h43, cs_1, rowsI_get, hn, cs_all, cs_lows])
      all_goals (try (first | refine WLV_splitN (fun hs => ?_) (fun hs => ?_) | refine WLC_splitN (fun hs => ?_) (fun hs => ?_) | refine WLB_splitN (fun hs => ?_) (fun hs => ?_) | refine WLPV_splitN (fun hs => ?_) (fun hs => ?_) | refine WLPC_splitN (fun hs => ?_) (fun hs => ?_) | refine WLPV_split (fun hs => ?_) (fun hs => ?_) | refine WLPC_split (fun hs => ?_) (fun hs => ?_) | refine WLV_split (fun hs => ?_) (fun hs => ?_) | refine WLC_split (fun hs => ?_) (fun hs => ?_) | refine WLB_split (fun hs => ?_) (fun hs => ?_)))
      all_goals (try (have hs' := hs; simp at hs'))
      all_goals (try simp [*, -getElem?_pos, h1, h4, h41, h42, h43, cs_1, rowsI_get, hn, cs_all, cs_lows])
      all_goals (try (first | refine WLV_splitN (fun hs => ?_) (fun hs => ?_) | refine WLC_splitN (fun hs => ?_) (fun hs => ?_) | refine WLB_splitN (fun hs => ?_) (fun hs => ?_) | refine WLPV_splitN (fun hs => ?_) (fun hs => ?_) | refine WLPC_splitN (fun hs => ?_) (fun hs => ?_) | refine WLPV_split (fun hs => ?_) (fun hs => ?_) | refine WLPC_split (fun hs => ?_) (fun hs => ?_) | refine WLV_split (fun hs => ?_) (fun hs => ?_) | refine WLC_split (fun hs => ?_) (fun hs => ?_) | refine WLB_split (fun hs => ?_) (fun hs => ?_)))
      all_goals (try (have hs' := hs; simp at hs'))
      all_goals (try simp [*, -getElem?_pos, h1, h4, h41, h42, h43, cs_1, rowsI_get, hn, cs_all, cs_lows])
      all_goals first
        | (refine hQ2 (bad ?_) _; simp [*, bAt]; done)
        | (refine (WL_of (c := K52a)).1 (ih 1 (by omega) (by omega) _ ?_ ?_ ?_ ?_ ?_ Q (fun hall => hQ1 fun j m hj hm => ?_) (fun ⟨j, m, hj, h⟩ => hQ2 ⟨j, m, by omega, h⟩))
           · simp [-getElem?_pos, h1]
           · simp [-getElem?_pos, h4]
           · simp [-getElem?_pos, h41]
           · simp [-getElem?_pos, h42]
           · simp [-getElem?_pos]; rfl
           · cases j with
             | zero => rw [hn] at hm; cases hm; simp [*, bAt]
             | succ j => exact hall _ m (by omega) hm)
    | succ j =>
      obtain ⟨m, hm⟩ : ∃ m, v.base[j]? = some m := ⟨_, List.getElem?_eq_getElem (by omega)⟩
      have hw1 := wrapN j (by omega)
      have hgd : v.base.getD j 0 = m := by rw [List.getD_eq_getElem?_getD, hm]; rfl
      have e1 : ((↑(j + 1) : Int) - 1) = (j : Int) := by omega
      have e2 : (0 : Int) < ↑(j + 1) := by omega
      simp [-getElem?_pos, h1, h4, h41, h42, h43, cs_1, rowsI_get, hn, hlt, -Int.natCast_add]
      all_goals (try (first | refine WLV_splitN (fun hs => ?_) (fun hs => ?_) | refine WLC_splitN (fun hs => ?_) (fun hs => ?_) | refine WLB_splitN (fun hs => ?_) (fun hs => ?_) | refine WLPV_splitN (fun hs => ?_) (fun hs => ?_) | refine WLPC_splitN (fun hs => ?_) (fun hs => ?_) | refine WLPV_split (fun hs => ?_) (fun hs => ?_) | refine WLPC_split (fun hs => ?_) (fun hs => ?_) | refine WLV_split (fun hs => ?_) (fun hs => ?_) | refine WLC_split (fun hs => ?_) (fun hs => ?_) | refine WLB_split (fun hs => ?_) (fun hs => ?_)))
      all_goals (try (have hs' := hs; simp at hs'))
      all_goals (try simp [*, -getElem?_pos, h1, h4, h41, h42, h43, cs_1, rowsI_get, hn, cs_all, cs_lows, -Int.natCast_add])
      all_goals (try (first | refine WLV_splitN (fun hs => ?_) (fun hs => ?_) | refine WLC_splitN (fun hs => ?_) (fun hs => ?_) | refine WLB_splitN (fun hs => ?_) (fun hs => ?_) | refine WLPV_splitN (fun hs => ?_) (fun hs => ?_) | refine WLPC_splitN (fun hs => ?_) (fun hs => ?_) | refine WLPV_split (fun hs => ?_) (fun hs => ?_) | refine WLPC_split (fun hs => ?_) (fun hs => ?_) | refine WLV_split (fun hs => ?_) (fun hs => ?_) | refine WLC_split (fun hs => ?_) (fun hs => ?_) | refine WLB_split (fun hs => ?_) (fun hs => ?_)))
      all_goals (try (have hs' := hs; simp at hs'))
      all_goals (try simp [*, -getElem?_pos, h1, h4, h41, h42, h43, cs_1, rowsI_get, hn, cs_all, cs_lows, -Int.natCast_add])
      all_goals (try (first | refine WLV_splitN (fun hs => ?_) (fun hs => ?_) | refine WLC_splitN (fun hs => ?_) (fun hs => ?_) | refine WLB_splitN (fun hs => ?_) (fun hs => ?_) | refine WLPV_splitN (fun hs => ?_) (fun hs => ?_) | refine WLPC_splitN (fun hs => ?_) (fun hs => ?_) | refine WLPV_split (fun hs => ?_) (fun hs => ?_) | refine WLPC_split (fun hs => ?_) (fun hs => ?_) | refine WLV_split (fun hs => ?_) (fun hs => ?_) | refine WLC_split (fun hs => ?_) (fun hs => ?_) | refine WLB_split (fun hs => ?_) (fun hs => ?_)))
      all_goals (try (have hs' := hs; simp at hs'))
      all_goals (try simp [*, -getElem?_pos, h1, h4, h41, h42, h43, cs_1, rowsI_get, hn, cs_all, cs_lows, -Int.natCast_add])
      all_goals (try (first | refine WLV_splitN (fun hs => ?_) (fun hs => ?_) | refine WLC_splitN (fun hs => ?_) (fun hs => ?_) | refine WLB_splitN (fun hs => ?_) (fun hs => ?_) | refine WLPV_splitN (fun hs => ?_) (fun hs => ?_) | refine WLPC_splitN (fun hs => ?_) (fun hs => ?_) | refine WLPV_split (fun hs => ?_) (fun hs => ?_) | refine WLPC_split (fun hs => ?_) (fun hs => ?_) | refine WLV_split (fun hs => ?_) (fun hs => ?_) | refine WLC_split (fun hs => ?_) (fun hs => ?_) | refine WLB_split (fun hs => ?_) (fun hs => ?_)))
      all_goals (try (have hs' := hs; simp at hs'))
      all_goals (try simp [*, -getElem?_pos, h1, h4, h41, h42, h43, cs_1, rowsI_get, hn, cs_all, cs_lows, -Int.natCast_add])
      all_goals first
        | (refine hQ2 (bad ?_) _; simp [*, bAt]; done)
        | (refine (WL_of (c := K52a)).1 (ih (j + 1 + 1) (by omega) (by omega) _ ?_ ?_ ?_ ?_ ?_ Q (fun hall => hQ1 fun i m' hi hm' => ?_) (fun ⟨i, m', hi, h⟩ => hQ2 ⟨i, m', by omega, h⟩))
           · simp [-getElem?_pos, h1]
           · simp [-getElem?_pos, h4]
           · simp [-getElem?_pos, h41]
           · simp [-getElem?_pos, h42]
           · simp [-getElem?_pos, hw, -Int.natCast_add]
           · rcases Nat.lt_or_ge (j + 1) i with h | h
             · exact hall _ m' (by omega) hm'
             · have : i = j + 1 := by omega
               subst this
               rw [hn] at hm'; cases hm'; simp [*, bAt])

def K52b : CCode := (.loop [4, 67, 68] (.seq (.reg (⟨(some 69), .bin .lss (.t 68) (.c (.d (.int .i64 16))), none⟩ ::
    []))
  (.seq (.cond (.t 69) .skip (.exit 2))
  (.seq (.block 3 (.seq (.reg (⟨(some 70), .ixv 16 (.t 67) (.t 68), none⟩ ::
    ⟨(some 8), .mv (.t 70), none⟩ ::
    []))
  (.seq (.reg (⟨(some 71), .mv (.t 4), none⟩ ::
    ⟨(some 72), .mv (.t 8), none⟩ ::
    ⟨(some 73), .call (.t 71) [(.t 72)], none⟩ ::
    ⟨(some 74), .not (.t 73), none⟩ ::
    []))
  (.cond (.t 74) (.goto 0) .skip))))
  (.reg (⟨(some 75), .bin .add (.t 68) (.c (.d (.int .i64 1))), none⟩ ::
    ⟨(some 68), .mv (.t 75), none⟩ ::
    []))))))
theorem K52b_eq : K52b = .loop [4, 67, 68] (.seq (.reg (⟨(some 69), .bin .lss (.t 68) (.c (.d (.int .i64 16))), none⟩ ::
    []))
  (.seq (.cond (.t 69) .skip (.exit 2))
  (.seq (.block 3 (.seq (.reg (⟨(some 70), .ixv 16 (.t 67) (.t 68), none⟩ ::
    ⟨(some 8), .mv (.t 70), none⟩ ::
    []))
  (.seq (.reg (⟨(some 71), .mv (.t 4), none⟩ ::
    ⟨(some 72), .mv (.t 8), none⟩ ::
    ⟨(some 73), .call (.t 71) [(.t 72)], none⟩ ::
    ⟨(some 74), .not (.t 73), none⟩ ::
    []))
  (.cond (.t 74) (.goto 0) .skip))))
  (.reg (⟨(some 75), .bin .add (.t 68) (.c (.d (.int .i64 1))), none⟩ ::
    ⟨(some 68), .mv (.t 75), none⟩ ::
    []))))) := rfl
theorem fin52_loop (v : VW) : ∀ (k i : Nat), 16 - i = k → i ≤ 16 → ∀ (env : Env), look env 4 = some (.fn 76 [.ptr 0 0]) → look env 67 = some (.agg (v.fin.map fun n => .d (.int .i64 n))) → look env 68 = some (.d (.int .i64 i)) →
    ∀ (Q : Ex → Env → St → Prop), ((∀ n ∈ v.fin.drop i, other v.id n = true) → ∀ env', Q (.ex 2) env' ⟨[some (.cells v.cs)], []⟩) →
      ((∃ n ∈ v.fin.drop i, other v.id n = false) → ∀ env', Q (.gt 0) env' ⟨[some (.cells v.cs)], []⟩) → W TVR ⟨[], 0⟩ K52b env ⟨[some (.cells v.cs)], []⟩ Q := by
  have hf := v.hf
  intro k
  induction k with
  | zero =>
    intro i hk hi env h4 h67 h68 Q hQ1 hQ2
    have e : ¬ ((i : Int) < 16) := by omega
    rw [K52b_eq, W_loop]
    simp [-getElem?_pos, h4, h67, h68, e]
    refine hQ1 (fun n hn => ?_) _
    rw [List.drop_eq_nil_of_le (by omega)] at hn; cases hn
  | succ k ih =>
    intro i hk hi env h4 h67 h68 Q hQ1 hQ2
    obtain ⟨n, hn⟩ : ∃ n, v.fin[i]? = some n := ⟨_, List.getElem?_eq_getElem (by omega)⟩
    have hd : v.fin.drop i = n :: v.fin.drop (i + 1) := by rw [List.drop_eq_getElem_cons (by omega)]; congr 1; exact (List.getElem?_eq_some_iff.1 hn).2
    have hw := wrapN1 i (by omega)
    have e : ((i : Int) < 16) := by omega
    rw [K52b_eq, W_loop]
    simp [-getElem?_pos, h4, h67, h68, e, hn, -Int.natCast_add]
    refine other_clo v ?_
    simp [-getElem?_pos, h4, h67, h68, e, hn, -Int.natCast_add]
    all_goals (try (first | refine WLV_splitN (fun hs => ?_) (fun hs => ?_) | refine WLC_splitN (fun hs => ?_) (fun hs => ?_) | refine WLB_splitN (fun hs => ?_) (fun hs => ?_) | refine WLPV_splitN (fun hs => ?_) (fun hs => ?_) | refine WLPC_splitN (fun hs => ?_) (fun hs => ?_) | refine WLPV_split (fun hs => ?_) (fun hs => ?_) | refine WLPC_split (fun hs => ?_) (fun hs => ?_) | refine WLV_split (fun hs => ?_) (fun hs => ?_) | refine WLC_split (fun hs => ?_) (fun hs => ?_) | refine WLB_split (fun hs => ?_) (fun hs => ?_)))
    all_goals (try (have hs' := hs; simp at hs'))
    all_goals (try simp [*, -getElem?_pos, h4, h67, h68, hn, cs_all, cs_lows, lows_ints, -Int.natCast_add])
    all_goals first
      | (refine hQ2 ⟨n, by rw [hd]; simp, ?_⟩ _; simp [*]; done)
      | (refine (WL_of (c := K52b)).1 (ih (i + 1) (by omega) (by omega) _ ?_ ?_ ?_ Q (fun hall => hQ1 fun m hm => ?_) (fun ⟨m, hm, h⟩ => hQ2 ⟨m, by rw [hd]; exact List.mem_cons_of_mem _ hm, h⟩))
         · simp [-getElem?_pos, h4]
         · simp [-getElem?_pos, h67]
         · simp [-getElem?_pos, hw, -Int.natCast_add]
         · rw [hd] at hm
           rcases List.mem_cons.1 hm with rfl | hm
           · assumption
           · exact hall m hm)
theorem view_Right : Pure Tryd.prog 36 right_F := by
  refine con TVR_ok rfl rfl fun v _ => ⟨rfl, ?_⟩
  simp [cf36, V_av, -getElem?_pos, WL_scope, cs_0, cs_1, cs_2, cs_3, cs_length, cs_take, cs_lows, cs_all, stepK.lenA, rowsI_length]
  all_goals (try (first | refine WLV_splitN (fun hs => ?_) (fun hs => ?_) | refine WLC_splitN (fun hs => ?_) (fun hs => ?_) | refine WLB_splitN (fun hs => ?_) (fun hs => ?_) | refine WLPV_splitN (fun hs => ?_) (fun hs => ?_) | refine WLPC_splitN (fun hs => ?_) (fun hs => ?_) | refine WLPV_split (fun hs => ?_) (fun hs => ?_) | refine WLPC_split (fun hs => ?_) (fun hs => ?_) | refine WLV_split (fun hs => ?_) (fun hs => ?_) | refine WLC_split (fun hs => ?_) (fun hs => ?_) | refine WLB_split (fun hs => ?_) (fun hs => ?_)))
  all_goals (try (have hs' := hs; simp at hs'))
  all_goals (try simp [*, -getElem?_pos, cs_0, cs_1, cs_2, cs_3, cs_length, cs_take, cs_lows, cs_all, stepK.lenA, rowsI_length])
  all_goals (try (first | refine WLV_splitN (fun hs => ?_) (fun hs => ?_) | refine WLC_splitN (fun hs => ?_) (fun hs => ?_) | refine WLB_splitN (fun hs => ?_) (fun hs => ?_) | refine WLPV_splitN (fun hs => ?_) (fun hs => ?_) | refine WLPC_splitN (fun hs => ?_) (fun hs => ?_) | refine WLPV_split (fun hs => ?_) (fun hs => ?_) | refine WLPC_split (fun hs => ?_) (fun hs => ?_) | refine WLV_split (fun hs => ?_) (fun hs => ?_) | refine WLC_split (fun hs => ?_) (fun hs => ?_) | refine WLB_split (fun hs => ?_) (fun hs => ?_)))
  all_goals (try (have hs' := hs; simp at hs'))
  all_goals (try simp [*, -getElem?_pos, cs_0, cs_1, cs_2, cs_3, cs_length, cs_take, cs_lows, cs_all, stepK.lenA, rowsI_length])
  all_goals (try (first | refine WLV_splitN (fun hs => ?_) (fun hs => ?_) | refine WLC_splitN (fun hs => ?_) (fun hs => ?_) | refine WLB_splitN (fun hs => ?_) (fun hs => ?_) | refine WLPV_splitN (fun hs => ?_) (fun hs => ?_) | refine WLPC_splitN (fun hs => ?_) (fun hs => ?_) | refine WLPV_split (fun hs => ?_) (fun hs => ?_) | refine WLPC_split (fun hs => ?_) (fun hs => ?_) | refine WLV_split (fun hs => ?_) (fun hs => ?_) | refine WLC_split (fun hs => ?_) (fun hs => ?_) | refine WLB_split (fun hs => ?_) (fun hs => ?_)))
  all_goals (try (have hs' := hs; simp at hs'))
  all_goals (try simp [*, -getElem?_pos, cs_0, cs_1, cs_2, cs_3, cs_length, cs_take, cs_lows, cs_all, stepK.lenA, rowsI_length])
  all_goals (try (first | refine WLV_splitN (fun hs => ?_) (fun hs => ?_) | refine WLC_splitN (fun hs => ?_) (fun hs => ?_) | refine WLB_splitN (fun hs => ?_) (fun hs => ?_) | refine WLPV_splitN (fun hs => ?_) (fun hs => ?_) | refine WLPC_splitN (fun hs => ?_) (fun hs => ?_) | refine WLPV_split (fun hs => ?_) (fun hs => ?_) | refine WLPC_split (fun hs => ?_) (fun hs => ?_) | refine WLV_split (fun hs => ?_) (fun hs => ?_) | refine WLC_split (fun hs => ?_) (fun hs => ?_) | refine WLB_split (fun hs => ?_) (fun hs => ?_)))
  all_goals (try (have hs' := hs; simp at hs'))
  all_goals (try simp [*, -getElem?_pos, cs_0, cs_1, cs_2, cs_3, cs_length, cs_take, cs_lows, cs_all, stepK.lenA, rowsI_length])
  all_goals try (
    refine onGt_go (rest := .seq .skip (.seq (.reg (⟨some 2, .mv (.c (.d (.bool false))), none⟩ :: [])) .ret)) rfl ?_
    simp [-getElem?_pos, cs_all]
    first | (simp [VW.right, *]; done) | (have h3 : v.right = false := (by unfold VW.right; simp; omega); exact h3))
  refine other_clo v ?_
  simp [-getElem?_pos]
  all_goals (try (first | refine WLV_splitN (fun hs => ?_) (fun hs => ?_) | refine WLC_splitN (fun hs => ?_) (fun hs => ?_) | refine WLB_splitN (fun hs => ?_) (fun hs => ?_) | refine WLPV_splitN (fun hs => ?_) (fun hs => ?_) | refine WLPC_splitN (fun hs => ?_) (fun hs => ?_) | refine WLPV_split (fun hs => ?_) (fun hs => ?_) | refine WLPC_split (fun hs => ?_) (fun hs => ?_) | refine WLV_split (fun hs => ?_) (fun hs => ?_) | refine WLC_split (fun hs => ?_) (fun hs => ?_) | refine WLB_split (fun hs => ?_) (fun hs => ?_)))
  all_goals (try (have hs' := hs; simp at hs'))
  all_goals (try simp [*, -getElem?_pos, cs_1, stepK.lenA, rowsI_length])
  · refine onGt_go (rest := .seq .skip (.seq (.reg (⟨some 2, .mv (.c (.d (.bool false))), none⟩ :: [])) .ret)) rfl ?_
    simp [-getElem?_pos, cs_all]
    simp [VW.right, *]
  rw [WL_code]
  have e2 : 2 ≤ v.base.length := by omega
  have e4 : v.base.length ≤ 4 := by omega
  refine base52_loop v v.base.length 0 (by omega) (by omega) _ ?_ ?_ ?_ ?_ ?_ _ (fun hall env' h1 h4 => ?_) (fun hbad env' => ?_)
  · simp [-getElem?_pos]
  · simp [-getElem?_pos]
  · simp [-getElem?_pos]
  · simp [-getElem?_pos]
  · simp [-getElem?_pos]
  · simp [-getElem?_pos, h1, h4, cs_length, cs_fin]
    rw [WL_code]
    have hbo : baseOk v.base = true := (baseOk_iff _).2 fun j n hn => hall j n (Nat.zero_le _) hn
    refine fin52_loop v 16 0 (by omega) (by omega) _ ?_ ?_ ?_ _ (fun hall2 env2 => ?_) (fun hbad2 env2 => ?_)
    · simp [-getElem?_pos, h4]
    · simp [-getElem?_pos]
    · simp [-getElem?_pos]
    · have hfa : v.fin.all (other v.id) = true := by rw [List.all_eq_true]; exact fun n hn => hall2 n (by simpa using hn)
      simp [-getElem?_pos]
      simp [VW.right, *]
    · have hfa : v.fin.all (other v.id) = false := by
        obtain ⟨n, hn, hb⟩ := hbad2
        cases h : v.fin.all (other v.id) with
        | false => rfl
        | true => rw [List.all_eq_true.1 h n (by simpa using hn)] at hb; cases hb
      simp only [WJ_gtb, WJ_gt, WJ_nil]
      refine onGt_go (rest := .seq .skip (.seq (.reg (⟨some 2, .mv (.c (.d (.bool false))), none⟩ :: [])) .ret)) rfl ?_
      simp [-getElem?_pos, cs_all]
      simp only [VW.right, hfa, Bool.and_false]
  · have hbo : baseOk v.base = false := by
      obtain ⟨j, n, _, hn, hb⟩ := hbad
      cases h : baseOk v.base with
      | false => rfl
      | true => rw [(baseOk_iff _).1 h j n hn] at hb; cases hb
    simp only [WJ_gtb, WJ_gt, WJ_nil]
    refine onGt_go (rest := .seq .skip (.seq (.reg (⟨some 2, .mv (.c (.d (.bool false))), none⟩ :: [])) .ret)) rfl ?_
    simp [-getElem?_pos, cs_all]
    simp only [VW.right, hbo, Bool.and_false, Bool.false_and]
noncomputable abbrev view_Right_F := right_F
end Go.Proofs.YtfifgiopdbdeoaaDoor.Lite
namespace Go.Proofs.YtfifgiopdbdeoaaDoor.Lite
open Go
attribute [local simp] WL_of WL_nil WL_blk WL_skip WL_label WL_exit WL_goto WL_seq WL_block WL_cond WL_reg WL_ret WJ_nil WJ_ex WJ_gt WJ_rt WJ_exb WJ_gtb WJ_rtb WLO_nil WLO_call WO_nw stepN WO_mv WO_pick WO_new WO_box WO_ld WO_ldn WO_st WO_off WO_ixa WO_ixs WO_fld WO_fldn WO_ixv WO_ixvn WO_ixb WO_bin WO_eqb WO_isn WO_eqs WO_not WO_conv WO_mkf WO_bld WO_bls WO_sla WO_sls WO_sl0 WO_len WO_app WO_mnx WO_ext WO_nilc wants_none wants_some wantv_b wantv_t WLV_true WLV_false WLC_false WLB_true WLB_false evX_t evX_c evXs_nil evXs_cons look_put look_putN look_cons look_arg0 look_arg stepK binOpA intOp strOp evRes oneOf outs gc toDV AV.dat? I Bo av_s List.map List.append_nil getO putO AV.cellsOf bne WL_dreg WLP_nil WLP_call WP_mv WP_pick WP_new WP_box WP_ld WP_ldn WP_off WP_ixa WP_ixs WP_fld WP_fldn WP_ixv WP_ixvn WP_ixb WP_bin WP_eqb WP_isn WP_eqs WP_not WP_conv WP_mkf WP_bld WP_bls WP_sla WP_sls WP_sl0 WP_len WP_app WP_mnx WP_ext WP_nilc WLPV_true WLPV_false WLPC_false WLC_tells WLPC_tells padH onNm onEx List.getElem?_cons_zero List.getElem?_cons_succ List.getElem?_nil restrict AV.lows lay AV.isCell lowObj AObj.lows WJ_nm AV.lows.go WL_scope onGt_rt onGt_nm onGt_ex WL_sreg WP_st preSt eraseB List.set_cons_zero List.set_cons_succ frz cutR cutAs cutA WL_sregT cutB cutBs

def ownF (key : Int) : Int → List Int → Int
  | at', [] => at'
  | at', x :: l => ownF key (bif decide (far key x < far key at') then place x else at') l
def owner (l : List Int) (key : Int) : Int × Bool := match l with
  | [] => (0, false)
  | x :: xs => (ownF key (place x) xs, true)
noncomputable def owner_F := orcOf (fun p : List Int × Int => [SI p.1, I p.2]) (fun p => p.1.length < 9223372036854775808) (fun p => [I (owner p.1 p.2).1, Bo (owner p.1 p.2).2])
instance (x : Int) (l : List Int) [h : Fact (l.length < 9223372036854775808)] : Tells owner_F [.d (.sl (rowsI l)), .d (.int .i64 x)] (.tup [.d (.int .i64 (owner l x).1), .d (.bool (owner l x).2)]) :=
  ⟨[SI l, I x], [I (owner l x).1, Bo (owner l x).2], fun h => by simp [toDVs, toDV, AV.dat?, I, SI], orcOf_eq (enc := fun p : List Int × Int => [SI p.1, I p.2]) (x := (l, x)) h.out (fun y h => by
    simp only [I, SI, List.cons.injEq, DV.s.injEq, Dat.int.injEq, Dat.sl.injEq, true_and, and_true] at h
    exact Prod.ext (rowsI_inj h.1) h.2), rfl, rfl, fun _ _ => rfl⟩

noncomputable def TRO : Tbl := tbl [(57, garlandref03_Place_F), (59, garlandref03_Far_F)]
theorem TRO_ok : TblOK Tryd.prog TRO := tbl_ok (by
  simp only [List.mem_cons, List.not_mem_nil, or_false]
  rintro p (rfl | rfl)
  · exact garlandref03_Place
  · exact garlandref03_Far)
instance : Has TRO 57 garlandref03_Place_F := ⟨rfl⟩
instance : Has TRO 59 garlandref03_Far_F := ⟨rfl⟩

def L85 : CCode := (.loop [0, 1, 6, 7] (.seq (.seq (.reg (⟨(some 15), .mv (.t 7), none⟩ ::
    ⟨(some 16), .mv (.t 0), none⟩ ::
    ⟨(some 17), .len false (.t 16), none⟩ ::
    ⟨(some 18), .bin .lss (.t 15) (.t 17), none⟩ ::
    []))
  (.cond (.t 18) .skip (.exit 0)))
  (.seq (.block 1 (.seq (.reg (⟨(some 21), .mv (.t 1), none⟩ ::
    ⟨(some 22), .mv (.t 0), none⟩ ::
    ⟨(some 23), .mv (.t 7), none⟩ ::
    ⟨(some 24), .ixs 1 (.t 22) (.t 23), none⟩ ::
    ⟨(some 25), .ld (.t 24), none⟩ ::
    ⟨(some 26), .call (.c (.fn 59 [])) [(.t 21), (.t 25)], none⟩ ::
    ⟨(some 27), .mv (.t 1), none⟩ ::
    ⟨(some 28), .mv (.t 6), none⟩ ::
    ⟨(some 29), .call (.c (.fn 59 [])) [(.t 27), (.t 28)], none⟩ ::
    ⟨(some 30), .bin .lss (.t 26) (.t 29), none⟩ ::
    []))
  (.cond (.t 30) (.reg (⟨(some 31), .mv (.t 0), none⟩ ::
    ⟨(some 32), .mv (.t 7), none⟩ ::
    ⟨(some 33), .ixs 1 (.t 31) (.t 32), none⟩ ::
    ⟨(some 34), .ld (.t 33), none⟩ ::
    ⟨(some 35), .call (.c (.fn 57 [])) [(.t 34)], none⟩ ::
    ⟨(some 6), .mv (.t 35), none⟩ ::
    [])) .skip)))
  (.reg (⟨(some 19), .mv (.t 7), none⟩ ::
    ⟨(some 20), .bin .add (.t 19) (.c (.d (.int .i64 1))), none⟩ ::
    ⟨(some 7), .mv (.t 20), none⟩ ::
    [])))))
theorem L85_eq : L85 = .loop [0, 1, 6, 7] (.seq (.seq (.reg (⟨(some 15), .mv (.t 7), none⟩ ::
    ⟨(some 16), .mv (.t 0), none⟩ ::
    ⟨(some 17), .len false (.t 16), none⟩ ::
    ⟨(some 18), .bin .lss (.t 15) (.t 17), none⟩ ::
    []))
  (.cond (.t 18) .skip (.exit 0)))
  (.seq (.block 1 (.seq (.reg (⟨(some 21), .mv (.t 1), none⟩ ::
    ⟨(some 22), .mv (.t 0), none⟩ ::
    ⟨(some 23), .mv (.t 7), none⟩ ::
    ⟨(some 24), .ixs 1 (.t 22) (.t 23), none⟩ ::
    ⟨(some 25), .ld (.t 24), none⟩ ::
    ⟨(some 26), .call (.c (.fn 59 [])) [(.t 21), (.t 25)], none⟩ ::
    ⟨(some 27), .mv (.t 1), none⟩ ::
    ⟨(some 28), .mv (.t 6), none⟩ ::
    ⟨(some 29), .call (.c (.fn 59 [])) [(.t 27), (.t 28)], none⟩ ::
    ⟨(some 30), .bin .lss (.t 26) (.t 29), none⟩ ::
    []))
  (.cond (.t 30) (.reg (⟨(some 31), .mv (.t 0), none⟩ ::
    ⟨(some 32), .mv (.t 7), none⟩ ::
    ⟨(some 33), .ixs 1 (.t 31) (.t 32), none⟩ ::
    ⟨(some 34), .ld (.t 33), none⟩ ::
    ⟨(some 35), .call (.c (.fn 57 [])) [(.t 34)], none⟩ ::
    ⟨(some 6), .mv (.t 35), none⟩ ::
    [])) .skip)))
  (.reg (⟨(some 19), .mv (.t 7), none⟩ ::
    ⟨(some 20), .bin .add (.t 19) (.c (.d (.int .i64 1))), none⟩ ::
    ⟨(some 7), .mv (.t 20), none⟩ ::
    [])))) := rfl
theorem owner85_loop (l : List Int) (key : Int) (hl : l.length < 9223372036854775808) : ∀ (k i : Nat), l.length - i = k → i ≤ l.length → ∀ (a : Int) (env : Env), look env 0 = some (vsI l) → look env 1 = some (.d (.int .i64 key)) → look env 6 = some (.d (.int .i64 a)) → look env 7 = some (.d (.int .i64 i)) →
    ∀ (Q : Ex → Env → St → Prop), (∀ env', look env' 6 = some (.d (.int .i64 (ownF key a (l.drop i)))) → Q (.ex 0) env' ⟨[], []⟩) → W TRO ⟨[], 0⟩ L85 env ⟨[], []⟩ Q := by
  intro k
  induction k with
  | zero =>
    intro i hk hi a env h0 h1 h6 h7 Q hQ
    have hlt : ¬ i < l.length := by omega
    rw [L85_eq, W_loop]
    simp [-getElem?_pos, h0, h1, h6, h7, stepK.lenA, rowsI_length, hlt]
    refine hQ _ ?_
    rw [List.drop_eq_nil_of_le (by omega)]
    simp [-getElem?_pos, h6, ownF]
  | succ k ih =>
    intro i hk hi a env h0 h1 h6 h7 Q hQ
    have hlt : i < l.length := by omega
    obtain ⟨n, hn⟩ : ∃ n, l[i]? = some n := ⟨_, List.getElem?_eq_getElem hlt⟩
    have hd : l.drop i = n :: l.drop (i + 1) := by rw [List.drop_eq_getElem_cons hlt]; congr 1; exact (List.getElem?_eq_some_iff.1 hn).2
    have hw := wrapN1 i (by omega)
    rw [L85_eq, W_loop]
    simp [-getElem?_pos, h0, h1, h6, h7, stepK.lenA, rowsI_length, rowsI_get, hn, hlt, -Int.natCast_add]
    all_goals (try (first | refine WLV_splitN (fun hs => ?_) (fun hs => ?_) | refine WLC_splitN (fun hs => ?_) (fun hs => ?_) | refine WLB_splitN (fun hs => ?_) (fun hs => ?_) | refine WLPV_splitN (fun hs => ?_) (fun hs => ?_) | refine WLPC_splitN (fun hs => ?_) (fun hs => ?_) | refine WLPV_split (fun hs => ?_) (fun hs => ?_) | refine WLPC_split (fun hs => ?_) (fun hs => ?_) | refine WLV_split (fun hs => ?_) (fun hs => ?_) | refine WLC_split (fun hs => ?_) (fun hs => ?_) | refine WLB_split (fun hs => ?_) (fun hs => ?_)))
    all_goals (try (have hs' := hs; simp at hs'))
    all_goals (try simp [*, -getElem?_pos, h0, h1, h6, h7, rowsI_get, hn, -Int.natCast_add])
    all_goals (refine (WL_of (c := L85)).1 (ih (i + 1) (by omega) (by omega) (bif decide (far key n < far key a) then place n else a) _ ?_ ?_ ?_ ?_ Q (fun env' h => hQ env' ?_)))
    all_goals first
      | (simp [*, -getElem?_pos, h0, h1, h6, h7, hw, -Int.natCast_add]; done)
      | (rw [h, hd]; simp [ownF, *])
theorem ownF_first (key x : Int) (l : List Int) : ownF key (place x) (x :: l) = ownF key (place x) l := by
  have : far key (place x) = far key x := by unfold far place; omega
  simp [ownF, this]
theorem garlandref03_Owner : Pure Tryd.prog 118 owner_F := by
  refine con TRO_ok rfl rfl fun ⟨l, key⟩ hl => ⟨rfl, ?_⟩
  cases l with
  | nil => simp [cf118, -getElem?_pos, SI, stepK.lenA, rowsI_length, owner, rowsI, toDVs]
  | cons x l =>
    have e : ((l.length : Int) + 1 == 0) = false := by rw [beq_eq_false_iff_ne]; omega
    simp [cf118, -getElem?_pos, SI, stepK.lenA, rowsI_length, rowsI_get, e]
    rw [WL_code]
    refine owner85_loop (x :: l) key hl (x :: l).length 0 (by omega) (by omega) (place x) _ ?_ ?_ ?_ ?_ _ (fun env' h => ?_)
    · simp [-getElem?_pos]
    · simp [-getElem?_pos]
    · simp [-getElem?_pos]
    · simp [-getElem?_pos]
    · simp only [List.drop_zero, ownF_first] at h
      simp [-getElem?_pos, h, toDVs, owner]
noncomputable abbrev garlandref03_Owner_F := owner_F

theorem gc_nil {N M : Nat} {vs : List AV} : gc N M vs [] = [] := by simp [gc]
noncomputable def TAO : Tbl := tbl [(115, arc_Place_F), (92, arc_Far_F)]
theorem TAO_ok : TblOK Tryd.prog TAO := tbl_ok (by
  simp only [List.mem_cons, List.not_mem_nil, or_false]
  rintro p (rfl | rfl)
  · exact arc_Place
  · exact arc_Far)
instance : Has TAO 115 arc_Place_F := ⟨rfl⟩
instance : Has TAO 92 arc_Far_F := ⟨rfl⟩

def W91 : CCode := (.seq (.seq (.reg (⟨(some 6), .mv (.t 0), none⟩ ::
    ⟨(some 7), .len false (.t 6), none⟩ ::
    ⟨(some 8), .bin .eql (.t 7) (.c (.d (.int .i64 0))), none⟩ ::
    []))
  (.cond (.t 8) (.seq (.reg (⟨(some 4), .mv (.c (.d (.int .i64 0))), none⟩ ::
    ⟨(some 5), .mv (.c (.d (.bool false))), none⟩ ::
    []))
  .ret) .skip))
  (.seq (.reg (⟨(some 9), .mv (.t 0), none⟩ ::
    ⟨(some 10), .ixs 1 (.t 9) (.c (.d (.int .i64 0))), none⟩ ::
    ⟨(some 11), .ld (.t 10), none⟩ ::
    ⟨(some 12), .call (.c (.fn 115 [])) [(.t 11)], none⟩ ::
    ⟨(some 4), .mv (.t 12), none⟩ ::
    []))
  (.seq (.label 0)
  (.seq (.seq (.reg (⟨(some 13), .mv (.t 0), none⟩ ::
    ⟨(some 14), .sls 1 (.t 13) (some (.c (.d (.int .i64 1)))) none, none⟩ ::
    ⟨(some 0), .mv (.t 14), none⟩ ::
    []))
  (.seq (.reg (⟨(some 15), .mv (.t 0), none⟩ ::
    ⟨(some 16), .len false (.t 15), none⟩ ::
    ⟨(some 17), .bin .gtr (.t 16) (.c (.d (.int .i64 0))), none⟩ ::
    []))
  (.cond (.t 17) (.seq (.seq (.reg (⟨(some 18), .mv (.t 1), none⟩ ::
    ⟨(some 19), .mv (.t 0), none⟩ ::
    ⟨(some 20), .ixs 1 (.t 19) (.c (.d (.int .i64 0))), none⟩ ::
    ⟨(some 21), .ld (.t 20), none⟩ ::
    ⟨(some 22), .call (.c (.fn 92 [])) [(.t 18), (.t 21)], none⟩ ::
    ⟨(some 23), .mv (.t 1), none⟩ ::
    ⟨(some 24), .mv (.t 4), none⟩ ::
    ⟨(some 25), .call (.c (.fn 92 [])) [(.t 23), (.t 24)], none⟩ ::
    ⟨(some 26), .bin .lss (.t 22) (.t 25), none⟩ ::
    []))
  (.cond (.t 26) (.reg (⟨(some 27), .mv (.t 0), none⟩ ::
    ⟨(some 28), .ixs 1 (.t 27) (.c (.d (.int .i64 0))), none⟩ ::
    ⟨(some 29), .ld (.t 28), none⟩ ::
    ⟨(some 30), .call (.c (.fn 115 [])) [(.t 29)], none⟩ ::
    ⟨(some 4), .mv (.t 30), none⟩ ::
    [])) .skip))
  (.goto 0)) .skip)))
  (.seq (.reg (⟨(some 31), .mv (.t 4), none⟩ ::
    ⟨(some 4), .mv (.t 31), none⟩ ::
    ⟨(some 5), .mv (.c (.d (.bool true))), none⟩ ::
    []))
  .ret)))))
def R91 : CCode := (.seq .skip (.seq (.seq (.reg (⟨(some 13), .mv (.t 0), none⟩ ::
    ⟨(some 14), .sls 1 (.t 13) (some (.c (.d (.int .i64 1)))) none, none⟩ ::
    ⟨(some 0), .mv (.t 14), none⟩ ::
    []))
  (.seq (.reg (⟨(some 15), .mv (.t 0), none⟩ ::
    ⟨(some 16), .len false (.t 15), none⟩ ::
    ⟨(some 17), .bin .gtr (.t 16) (.c (.d (.int .i64 0))), none⟩ ::
    []))
  (.cond (.t 17) (.seq (.seq (.reg (⟨(some 18), .mv (.t 1), none⟩ ::
    ⟨(some 19), .mv (.t 0), none⟩ ::
    ⟨(some 20), .ixs 1 (.t 19) (.c (.d (.int .i64 0))), none⟩ ::
    ⟨(some 21), .ld (.t 20), none⟩ ::
    ⟨(some 22), .call (.c (.fn 92 [])) [(.t 18), (.t 21)], none⟩ ::
    ⟨(some 23), .mv (.t 1), none⟩ ::
    ⟨(some 24), .mv (.t 4), none⟩ ::
    ⟨(some 25), .call (.c (.fn 92 [])) [(.t 23), (.t 24)], none⟩ ::
    ⟨(some 26), .bin .lss (.t 22) (.t 25), none⟩ ::
    []))
  (.cond (.t 26) (.reg (⟨(some 27), .mv (.t 0), none⟩ ::
    ⟨(some 28), .ixs 1 (.t 27) (.c (.d (.int .i64 0))), none⟩ ::
    ⟨(some 29), .ld (.t 28), none⟩ ::
    ⟨(some 30), .call (.c (.fn 115 [])) [(.t 29)], none⟩ ::
    ⟨(some 4), .mv (.t 30), none⟩ ::
    [])) .skip))
  (.goto 0)) .skip)))
  (.seq (.reg (⟨(some 31), .mv (.t 4), none⟩ ::
    ⟨(some 4), .mv (.t 31), none⟩ ::
    ⟨(some 5), .mv (.c (.d (.bool true))), none⟩ ::
    []))
  .ret)))
theorem owner91_loop (key : Int) : ∀ (l : List Int) (m a : Int) (env : Env), l.length < 9223372036854775807 → look env 0 = some (vsI (m :: l)) → look env 1 = some (.d (.int .i64 key)) → look env 4 = some (.d (.int .i64 a)) → ∀ (Q : Ex → Env → St → Prop),
    (∀ env', look env' 4 = some (.d (.int .i64 (ownF key a l))) → look env' 5 = some (.d (.bool true)) → Q .rt env' ⟨[], []⟩) → WL TAO ⟨[], 0⟩ [.code R91] env ⟨[], []⟩ (onGt TAO ⟨[], 0⟩ [0, 1, 4] W91 ⟨[], []⟩ Q)
  | [], m, a, env, hl, h0, h1, h4, Q, hQ => by
    simp [R91, -getElem?_pos, h0, h1, h4, bound?, stepK.lenA, rowsI_length, sliceA, rowsI_ok]
    refine hQ _ ?_ ?_ <;> simp [-getElem?_pos, ownF]
  | n :: l, m, a, env, hl, h0, h1, h4, Q, hQ => by
    have e : (0 : Int) < (l.length : Int) + 1 := by omega
    have e2 : ((rowsI (m :: n :: l)).take ((l.length : Int) + 1 + 1).toNat).drop 1 = rowsI (n :: l) := by
      have : ((l.length : Int) + 1 + 1).toNat = l.length + 2 := by omega
      rw [this, List.take_of_length_le (by simp [rowsI])]; rfl
    have e3 : (1 : Int) ≤ (l.length : Int) + 1 + 1 := by omega
    have e4 : ((l.length : Int) + 1 + 1).toNat ≤ l.length + 1 + 1 := by omega
    simp [R91, -getElem?_pos, h0, h1, h4, bound?, stepK.lenA, rowsI_length, sliceA, rowsI_ok, e, e2, e3, e4, rowsI_get]
    all_goals (try (first | refine WLV_splitN (fun hs => ?_) (fun hs => ?_) | refine WLC_splitN (fun hs => ?_) (fun hs => ?_) | refine WLB_splitN (fun hs => ?_) (fun hs => ?_) | refine WLPV_splitN (fun hs => ?_) (fun hs => ?_) | refine WLPC_splitN (fun hs => ?_) (fun hs => ?_) | refine WLPV_split (fun hs => ?_) (fun hs => ?_) | refine WLPC_split (fun hs => ?_) (fun hs => ?_) | refine WLV_split (fun hs => ?_) (fun hs => ?_) | refine WLC_split (fun hs => ?_) (fun hs => ?_) | refine WLB_split (fun hs => ?_) (fun hs => ?_)))
    all_goals (try (have hs' := hs; simp at hs'))
    all_goals (try simp [*, -getElem?_pos, h0, h1, h4, rowsI_get])
    all_goals (
      refine onGt_go (rest := R91) rfl ?_
      simp only [gc_nil]
      refine owner91_loop key l n (bif decide (far key n < far key a) then place n else a) _ (by simp at hl; omega) ?_ ?_ ?_ Q (fun env' h5 h6 => hQ env' (by rw [h5]; rfl) h6) <;> simp [*, -getElem?_pos, h0, h1, h4])
theorem arc_Owner : Pure Tryd.prog 117 owner_F := by
  refine con TAO_ok rfl rfl fun ⟨l, key⟩ hl => ⟨rfl, ?_⟩
  cases l with
  | nil => simp [cf117, -getElem?_pos, SI, stepK.lenA, rowsI_length, owner, rowsI, toDVs]
  | cons x l =>
    have e : ((l.length : Int) + 1 == 0) = false := by rw [beq_eq_false_iff_ne]; omega
    simp [cf117, -getElem?_pos, SI, stepK.lenA, rowsI_length, rowsI_get, e, -WL_label]
    rw [WL_label]
    refine WL_skip.1 (WL_seq.1 (owner91_loop key l x (place x) _ (by simp at hl; omega) ?_ ?_ ?_ _ (fun env' h4 h5 => ?_)))
    · simp [-getElem?_pos]
    · simp [-getElem?_pos]
    · simp [-getElem?_pos]
    · simp [-getElem?_pos, h4, h5, toDVs, owner]
noncomputable abbrev arc_Owner_F := owner_F

/-! ### a view's anchor, its first one -/
def VW.anchor (v : VW) : Int := bif v.right then (owner v.base (v.id + 1)).1 else -1
noncomputable def anchor_F := orcOf (fun v : VW => [V v]) (fun _ => True) (fun v => [I v.anchor])
instance (v : VW) : Tells anchor_F [.agg v.cs] (.d (.int .i64 v.anchor)) :=
  ⟨[V v], [I v.anchor], fun h => by simp [toDVs, toDV, cs_dats, V], orcOf_eq (enc := fun v : VW => [V v]) (x := v) trivial (fun y h => by
    simp only [V, List.cons.injEq, DV.g.injEq, and_true] at h
    exact VW.inj h), rfl, rfl, fun _ _ => by simp [AV.lows, cs_lows]⟩
theorem right_id {v : VW} (h : v.right = true) : 0 ≤ v.id ∧ v.id < 65536 := by
  unfold VW.right isPlace at h
  simp only [Bool.and_eq_true, decide_eq_true_eq] at h
  exact h.1.1.1.1.1.1
theorem wrap_id {v : VW} (h : v.right = true) : IntKind.i64.wrap (v.id + 1) = v.id + 1 := by
  have := right_id h
  rw [wrap64]; split <;> omega
noncomputable def TA1 : Tbl := tbl [(36, view_Right_F), (117, arc_Owner_F)]
theorem TA1_ok : TblOK Tryd.prog TA1 := tbl_ok (by
  simp only [List.mem_cons, List.not_mem_nil, or_false]
  rintro p (rfl | rfl)
  · exact view_Right
  · exact arc_Owner)
instance : Has TA1 36 view_Right_F := ⟨rfl⟩
instance : Has TA1 117 arc_Owner_F := ⟨rfl⟩

theorem view_Anchor : Pure Tryd.prog 79 anchor_F := by
  refine con TA1_ok rfl rfl fun v _ => ⟨rfl, ?_⟩
  cases hr : v.right with
  | false => simp [cf79, V_av, -getElem?_pos, cs_length, cs_take, cs_all, cs_lows, VW.anchor, hr]
  | true =>
    have hw := wrap_id hr
    simp [cf79, V_av, -getElem?_pos, cs_0, cs_1, cs_length, cs_take, cs_all, cs_lows, VW.anchor, hr, hw]
noncomputable abbrev view_Anchor_F := anchor_F
noncomputable def TA2 : Tbl := tbl [(22, garlandref13_Right_F), (118, garlandref03_Owner_F)]
theorem TA2_ok : TblOK Tryd.prog TA2 := tbl_ok (by
  simp only [List.mem_cons, List.not_mem_nil, or_false]
  rintro p (rfl | rfl)
  · exact garlandref13_Right
  · exact garlandref03_Owner)
instance : Has TA2 22 garlandref13_Right_F := ⟨rfl⟩
instance : Has TA2 118 garlandref03_Owner_F := ⟨rfl⟩

theorem garlandref13_Anchor : Pure Tryd.prog 82 anchor_F := by
  refine con TA2_ok rfl rfl fun v _ => ⟨rfl, ?_⟩
  cases hr : v.right with
  | false => simp [cf82, V_av, -getElem?_pos, cs_length, cs_take, cs_all, cs_lows, VW.anchor, hr]
  | true =>
    have hw := wrap_id hr
    simp [cf82, V_av, -getElem?_pos, cs_0, cs_1, cs_length, cs_take, cs_all, cs_lows, VW.anchor, hr, hw]
noncomputable abbrev garlandref13_Anchor_F := anchor_F

def VW.first (v : VW) : Int := match v.lst with
  | [] => v.anchor
  | x :: _ => bif v.right then x else v.anchor
noncomputable def first_F := orcOf (fun v : VW => [V v]) (fun _ => True) (fun v => [I v.first])
instance (v : VW) : Tells first_F [.agg v.cs] (.d (.int .i64 v.first)) :=
  ⟨[V v], [I v.first], fun h => by simp [toDVs, toDV, cs_dats, V], orcOf_eq (enc := fun v : VW => [V v]) (x := v) trivial (fun y h => by
    simp only [V, List.cons.injEq, DV.g.injEq, and_true] at h
    exact VW.inj h), rfl, rfl, fun _ _ => by simp [AV.lows, cs_lows]⟩
noncomputable def TA3 : Tbl := tbl [(36, view_Right_F), (79, view_Anchor_F)]
theorem TA3_ok : TblOK Tryd.prog TA3 := tbl_ok (by
  simp only [List.mem_cons, List.not_mem_nil, or_false]
  rintro p (rfl | rfl)
  · exact view_Right
  · exact view_Anchor)
instance : Has TA3 36 view_Right_F := ⟨rfl⟩
instance : Has TA3 79 view_Anchor_F := ⟨rfl⟩

theorem view_First : Pure Tryd.prog 37 first_F := by
  refine con TA3_ok rfl rfl fun v _ => ⟨rfl, ?_⟩
  cases hl : v.lst with
  | nil =>
    cases hr : v.right with
    | false => simp [cf37, V_av, -getElem?_pos, cs_2, cs_length, cs_take, cs_all, cs_lows, VW.first, hr, hl]
    | true => simp [cf37, V_av, -getElem?_pos, cs_2, cs_length, cs_take, cs_all, cs_lows, VW.first, hr, hl, stepK.lenA, rowsI_length]
  | cons x l =>
    have e : ((l.length : Int) + 1 == 0) = false := by rw [beq_eq_false_iff_ne]; omega
    cases hr : v.right with
    | false => simp [cf37, V_av, -getElem?_pos, cs_2, cs_length, cs_take, cs_all, cs_lows, VW.first, hr, hl, rowsI_length]
    | true => simp [cf37, V_av, -getElem?_pos, cs_2, cs_length, cs_take, cs_all, cs_lows, VW.first, hr, hl, rowsI_length, rowsI_get, stepK.lenA, e]
noncomputable abbrev view_First_F := first_F
noncomputable def TA4 : Tbl := tbl [(22, garlandref13_Right_F), (82, garlandref13_Anchor_F)]
theorem TA4_ok : TblOK Tryd.prog TA4 := tbl_ok (by
  simp only [List.mem_cons, List.not_mem_nil, or_false]
  rintro p (rfl | rfl)
  · exact garlandref13_Right
  · exact garlandref13_Anchor)
instance : Has TA4 22 garlandref13_Right_F := ⟨rfl⟩
instance : Has TA4 82 garlandref13_Anchor_F := ⟨rfl⟩

theorem garlandref13_First : Pure Tryd.prog 40 first_F := by
  refine con TA4_ok rfl rfl fun v _ => ⟨rfl, ?_⟩
  cases hl : v.lst with
  | nil =>
    cases hr : v.right with
    | false => simp [cf40, V_av, -getElem?_pos, cs_2, cs_length, cs_take, cs_all, cs_lows, VW.first, hr, hl]
    | true => simp [cf40, V_av, -getElem?_pos, cs_2, cs_length, cs_take, cs_all, cs_lows, VW.first, hr, hl, stepK.lenA, rowsI_length]
  | cons x l =>
    have e : decide ((0 : Int) < (l.length : Int) + 1) = true := by rw [decide_eq_true_eq]; omega
    cases hr : v.right with
    | false => simp [cf40, V_av, -getElem?_pos, cs_2, cs_length, cs_take, cs_all, cs_lows, VW.first, hr, hl, rowsI_length]
    | true => simp [cf40, V_av, -getElem?_pos, cs_2, cs_length, cs_take, cs_all, cs_lows, VW.first, hr, hl, rowsI_length, rowsI_get, stepK.lenA, e]
noncomputable abbrev garlandref13_First_F := first_F
end Go.Proofs.YtfifgiopdbdeoaaDoor.Lite
namespace Go.Proofs.YtfifgiopdbdeoaaDoor.Lite
open Go
attribute [local simp] WL_of WL_nil WL_blk WL_skip WL_label WL_exit WL_goto WL_seq WL_block WL_cond WL_reg WL_ret WJ_nil WJ_ex WJ_gt WJ_rt WJ_exb WJ_gtb WJ_rtb WLO_nil WLO_call WO_nw stepN WO_mv WO_pick WO_new WO_box WO_ld WO_ldn WO_st WO_off WO_ixa WO_ixs WO_fld WO_fldn WO_ixv WO_ixvn WO_ixb WO_bin WO_eqb WO_isn WO_eqs WO_not WO_conv WO_mkf WO_bld WO_bls WO_sla WO_sls WO_sl0 WO_len WO_app WO_mnx WO_ext WO_nilc wants_none wants_some wantv_b wantv_t WLV_true WLV_false WLC_false WLB_true WLB_false evX_t evX_c evXs_nil evXs_cons look_put look_putN look_cons look_arg0 look_arg stepK binOpA intOp strOp evRes oneOf outs gc toDV AV.dat? I Bo av_s List.map List.append_nil getO putO AV.cellsOf bne WL_dreg WLP_nil WLP_call WP_mv WP_pick WP_new WP_box WP_ld WP_ldn WP_off WP_ixa WP_ixs WP_fld WP_fldn WP_ixv WP_ixvn WP_ixb WP_bin WP_eqb WP_isn WP_eqs WP_not WP_conv WP_mkf WP_bld WP_bls WP_sla WP_sls WP_sl0 WP_len WP_app WP_mnx WP_ext WP_nilc WLPV_true WLPV_false WLPC_false WLC_tells WLPC_tells padH onNm onEx List.getElem?_cons_zero List.getElem?_cons_succ List.getElem?_nil restrict AV.lows lay AV.isCell lowObj AObj.lows WJ_nm AV.lows.go WL_scope onGt_rt onGt_nm onGt_ex WL_sreg WP_st preSt eraseB List.set_cons_zero List.set_cons_succ frz cutR cutAs cutA WL_sregT cutB cutBs

structure MW where
  kind : Int
  call : Int
  src : Int
  dest : Int
  key : Int
  slow : Bool
  fin : Bool
  place : Int
  pred : Int
  lst : List Int
  ikey : List UInt8
  ival : Int
  iver : Int
  gone : Bool
  code : Int
  hl : lst.length < 9223372036854775808

def MW.dats (m : MW) : List Dat := [.int .u8 m.kind, .int .i64 m.call, .int .i64 m.src, .int .i64 m.dest, .int .i64 m.key, .bool m.slow, .bool m.fin, .int .i64 m.place, .int .i64 m.pred, .sl (rowsI m.lst), .str m.ikey, .int .i64 m.ival, .int .i64 m.iver, .bool m.gone, .int .i64 m.code]
def MW.cs (m : MW) : List AV := [.d (.int .u8 m.kind), .d (.int .i64 m.call), .d (.int .i64 m.src), .d (.int .i64 m.dest), .d (.int .i64 m.key), .d (.bool m.slow), .d (.bool m.fin), .d (.int .i64 m.place), .d (.int .i64 m.pred), vsI m.lst, .d (.str m.ikey), .d (.int .i64 m.ival), .d (.int .i64 m.iver), .d (.bool m.gone), .d (.int .i64 m.code)]
def Mg (m : MW) : DV := .g m.dats
theorem Mg_av (m : MW) : (Mg m).av = .agg m.cs := rfl
theorem MW.inj {m u : MW} (h : m.dats = u.dats) : m = u := by
  obtain ⟨⟩ := m
  obtain ⟨⟩ := u
  simp only [MW.dats, List.cons.injEq, Dat.int.injEq, Dat.bool.injEq, Dat.str.injEq, true_and, Dat.sl.injEq, and_true] at h
  obtain ⟨h1, h2, h3, h4, h5, h6, h7, h8, h9, h10, h11, h12, h13, h14, h15⟩ := h
  have := rowsI_inj h10
  simp_all
theorem mcs_dats (m : MW) : dats? m.cs = some m.dats := rfl
theorem mcs_lows (m : MW) (N M : Nat) : AV.lows.go N M m.cs = true := rfl
theorem mcs_all (m : MW) (N M : Nat) : m.cs.all (AV.lows N M) = true := rfl

theorem orcM {out : MW → List DV} (m : MW) : orcOf (fun m : MW => [Mg m]) (fun _ => True) out [Mg m] = some (out m) :=
  orcOf_eq (enc := fun m : MW => [Mg m]) (x := m) trivial (fun y h => by
    simp only [Mg, List.cons.injEq, DV.g.injEq, and_true] at h
    exact MW.inj h)
theorem toM (m : MW) (h : Heap) : toDVs h [.agg m.cs] = some [Mg m] := by simp [toDVs, toDV, mcs_dats, Mg]

def MW.asks (m : MW) : Bool := decide (m.kind > 0) && decide (m.kind ≤ 6)
noncomputable def asks_F := orcOf (fun m : MW => [Mg m]) (fun _ => True) (fun m => [Bo m.asks])
instance (m : MW) : Tells asks_F [.agg m.cs] (.d (.bool m.asks)) := ⟨[Mg m], [Bo m.asks], toM m, orcM m, rfl, rfl, fun _ _ => rfl⟩
theorem msg_Asks : Pure Tryd.prog 119 asks_F := by
  refine con (T := tbl []) (tbl_ok (by simp)) rfl rfl fun m _ => ⟨rfl, ?_⟩
  simp [cf119, Mg_av, -getElem?_pos, MW.cs, MW.asks]
  all_goals (try (first | refine WLV_splitN (fun hs => ?_) (fun hs => ?_) | refine WLC_splitN (fun hs => ?_) (fun hs => ?_) | refine WLB_splitN (fun hs => ?_) (fun hs => ?_) | refine WLPV_splitN (fun hs => ?_) (fun hs => ?_) | refine WLPC_splitN (fun hs => ?_) (fun hs => ?_) | refine WLPV_split (fun hs => ?_) (fun hs => ?_) | refine WLPC_split (fun hs => ?_) (fun hs => ?_) | refine WLV_split (fun hs => ?_) (fun hs => ?_) | refine WLC_split (fun hs => ?_) (fun hs => ?_) | refine WLB_split (fun hs => ?_) (fun hs => ?_)))
  all_goals (try (have hs' := hs; simp at hs'))
  all_goals (try simp [*, -getElem?_pos])
noncomputable abbrev msg_Asks_F := asks_F
theorem garlandref06_Asks : Pure Tryd.prog 96 asks_F := by
  refine con (T := tbl []) (tbl_ok (by simp)) rfl rfl fun m _ => ⟨rfl, ?_⟩
  simp [cf96, Mg_av, -getElem?_pos, MW.cs, MW.asks]
  all_goals (try (first | refine WLV_splitN (fun hs => ?_) (fun hs => ?_) | refine WLC_splitN (fun hs => ?_) (fun hs => ?_) | refine WLB_splitN (fun hs => ?_) (fun hs => ?_) | refine WLPV_splitN (fun hs => ?_) (fun hs => ?_) | refine WLPC_splitN (fun hs => ?_) (fun hs => ?_) | refine WLPV_split (fun hs => ?_) (fun hs => ?_) | refine WLPC_split (fun hs => ?_) (fun hs => ?_) | refine WLV_split (fun hs => ?_) (fun hs => ?_) | refine WLC_split (fun hs => ?_) (fun hs => ?_) | refine WLB_split (fun hs => ?_) (fun hs => ?_)))
  all_goals (try (have hs' := hs; simp at hs'))
  all_goals (try simp [*, -getElem?_pos])
  all_goals omega
noncomputable abbrev garlandref06_Asks_F := asks_F
def MW.asker (m : MW) : Int := bif m.asks then m.src else m.dest
noncomputable def asker_F := orcOf (fun m : MW => [Mg m]) (fun _ => True) (fun m => [I m.asker])
instance (m : MW) : Tells asker_F [.agg m.cs] (.d (.int .i64 m.asker)) := ⟨[Mg m], [I m.asker], toM m, orcM m, rfl, rfl, fun _ _ => rfl⟩
theorem mcs_len (m : MW) : m.cs.length = 15 := rfl
theorem mcs_take (m : MW) : m.cs.take 15 = m.cs := rfl
theorem mcs_2 (m : MW) : m.cs[2]? = some (.d (.int .i64 m.src)) := rfl
theorem mcs_3 (m : MW) : m.cs[3]? = some (.d (.int .i64 m.dest)) := rfl
noncomputable def TM1 : Tbl := tbl [(119, msg_Asks_F)]
theorem TM1_ok : TblOK Tryd.prog TM1 := tbl_ok (by
  simp only [List.mem_cons, List.not_mem_nil, or_false]
  rintro p (rfl)
  · exact msg_Asks)
instance : Has TM1 119 msg_Asks_F := ⟨rfl⟩

theorem msg_Asker : Pure Tryd.prog 85 asker_F := by
  refine con TM1_ok rfl rfl fun m _ => ⟨rfl, ?_⟩
  cases ha : m.asks <;> simp [cf85, Mg_av, -getElem?_pos, mcs_len, mcs_take, mcs_2, mcs_3, MW.asker, ha]
noncomputable abbrev msg_Asker_F := asker_F
noncomputable def TM2 : Tbl := tbl [(96, garlandref06_Asks_F)]
theorem TM2_ok : TblOK Tryd.prog TM2 := tbl_ok (by
  simp only [List.mem_cons, List.not_mem_nil, or_false]
  rintro p (rfl)
  · exact garlandref06_Asks)
instance : Has TM2 96 garlandref06_Asks_F := ⟨rfl⟩

theorem garlandref06_Asker : Pure Tryd.prog 53 asker_F := by
  refine con TM2_ok rfl rfl fun m _ => ⟨rfl, ?_⟩
  cases ha : m.asks <;> simp [cf53, Mg_av, -getElem?_pos, mcs_len, mcs_take, mcs_2, mcs_3, MW.asker, ha]
noncomputable abbrev garlandref06_Asker_F := asker_F
end Go.Proofs.YtfifgiopdbdeoaaDoor.Lite
namespace Go.Proofs.YtfifgiopdbdeoaaDoor.Lite
open Go
attribute [local simp] WL_of WL_nil WL_blk WL_skip WL_label WL_exit WL_goto WL_seq WL_block WL_cond WL_reg WL_ret WJ_nil WJ_ex WJ_gt WJ_rt WJ_exb WJ_gtb WJ_rtb WLO_nil WLO_call WO_nw stepN WO_mv WO_pick WO_new WO_box WO_ld WO_ldn WO_st WO_off WO_ixa WO_ixs WO_fld WO_fldn WO_ixv WO_ixvn WO_ixb WO_bin WO_eqb WO_isn WO_eqs WO_not WO_conv WO_mkf WO_bld WO_bls WO_sla WO_sls WO_sl0 WO_len WO_app WO_mnx WO_ext WO_nilc wants_none wants_some wantv_b wantv_t WLV_true WLV_false WLC_false WLB_true WLB_false evX_t evX_c evXs_nil evXs_cons look_put look_putN look_cons look_arg0 look_arg stepK binOpA intOp strOp evRes oneOf outs gc toDV AV.dat? I Bo av_s List.map List.append_nil getO putO AV.cellsOf bne WL_dreg WLP_nil WLP_call WP_mv WP_pick WP_new WP_box WP_ld WP_ldn WP_off WP_ixa WP_ixs WP_fld WP_fldn WP_ixv WP_ixvn WP_ixb WP_bin WP_eqb WP_isn WP_eqs WP_not WP_conv WP_mkf WP_bld WP_bls WP_sla WP_sls WP_sl0 WP_len WP_app WP_mnx WP_ext WP_nilc WLPV_true WLPV_false WLPC_false WLC_tells WLPC_tells padH onNm onEx List.getElem?_cons_zero List.getElem?_cons_succ List.getElem?_nil restrict AV.lows lay AV.isCell lowObj AObj.lows WJ_nm AV.lows.go WL_scope onGt_rt onGt_nm onGt_ex WL_sreg WP_st preSt eraseB List.set_cons_zero List.set_cons_succ frz cutR cutAs cutA WL_sregT cutB cutBs

structure IW where
  key : List UInt8
  val : Int
  ver : Int
  gone : Bool
def IW.dats (x : IW) : List Dat := [.str x.key, .int .i64 x.val, .int .i64 x.ver, .bool x.gone]
def IW.cs (x : IW) : List AV := [.d (.str x.key), .d (.int .i64 x.val), .d (.int .i64 x.ver), .d (.bool x.gone)]
def It (x : IW) : DV := .g x.dats
theorem It_av (x : IW) : (It x).av = .agg x.cs := rfl
theorem IW.inj {x y : IW} (h : x.dats = y.dats) : x = y := by
  obtain ⟨⟩ := x
  obtain ⟨⟩ := y
  simp only [IW.dats, List.cons.injEq, Dat.int.injEq, Dat.bool.injEq, Dat.str.injEq, true_and, and_true] at h
  simp_all
theorem orcI {out : IW → List DV} (x : IW) : orcOf (fun x : IW => [It x]) (fun _ => True) out [It x] = some (out x) :=
  orcOf_eq (enc := fun x : IW => [It x]) (x := x) trivial (fun y h => by
    simp only [It, List.cons.injEq, DV.g.injEq, and_true] at h
    exact IW.inj h)
def keyB (s : List UInt8) : Bool := !(s == []) && decide (s.length ≤ 20)
def within (n : Int) : Bool := decide (0 ≤ n) && decide (n ≤ 1048576)
def IW.pair (x : IW) : Bool := keyB x.key && within x.val && within x.ver
noncomputable def pair_F := orcOf (fun x : IW => [It x]) (fun _ => True) (fun x => [Bo x.pair])
instance (s : List UInt8) (a b : Int) (g : Bool) : Tells pair_F [.agg [.d (.str s), .d (.int .i64 a), .d (.int .i64 b), .d (.bool g)]] (.d (.bool (IW.pair ⟨s, a, b, g⟩))) := ⟨[It ⟨s, a, b, g⟩], [Bo (IW.pair ⟨s, a, b, g⟩)], fun _ => rfl, orcI _, rfl, rfl, fun _ _ => rfl⟩
noncomputable def keyB_F := orcOf (fun s : List UInt8 => [.s (.str s)]) (fun _ => True) (fun s => [Bo (keyB s)])
instance (s : List UInt8) : Tells keyB_F [.d (.str s)] (.d (.bool (keyB s))) :=
  ⟨[.s (.str s)], [Bo (keyB s)], fun _ => rfl, orcOf_eq (enc := fun s : List UInt8 => [.s (.str s)]) trivial (fun y h => by simpa using h), rfl, rfl, fun _ _ => rfl⟩
noncomputable def within_F := orcOf (fun n : Int => [I n]) (fun _ => True) (fun n => [Bo (within n)])
instance (n : Int) : Tells within_F [.d (.int .i64 n)] (.d (.bool (within n))) :=
  ⟨[I n], [Bo (within n)], fun _ => rfl, orcOf_eq (enc := fun n : Int => [I n]) trivial (fun y h => by simpa [I] using h), rfl, rfl, fun _ _ => rfl⟩
theorem msg_key : Pure Tryd.prog 111 keyB_F := by
  refine con (T := tbl []) (tbl_ok (by simp)) rfl rfl fun s _ => ⟨rfl, ?_⟩
  simp [cf111, -getElem?_pos, keyB]
  all_goals (try (first | refine WLV_splitN (fun hs => ?_) (fun hs => ?_) | refine WLC_splitN (fun hs => ?_) (fun hs => ?_) | refine WLB_splitN (fun hs => ?_) (fun hs => ?_) | refine WLPV_splitN (fun hs => ?_) (fun hs => ?_) | refine WLPC_splitN (fun hs => ?_) (fun hs => ?_) | refine WLPV_split (fun hs => ?_) (fun hs => ?_) | refine WLPC_split (fun hs => ?_) (fun hs => ?_) | refine WLV_split (fun hs => ?_) (fun hs => ?_) | refine WLC_split (fun hs => ?_) (fun hs => ?_) | refine WLB_split (fun hs => ?_) (fun hs => ?_)))
  all_goals (try (have hs' := hs; simp at hs'))
  all_goals (try simp [*, -getElem?_pos])
  all_goals (try omega)
noncomputable abbrev msg_key_F := keyB_F
theorem msg_within : Pure Tryd.prog 112 within_F := by
  refine con (T := tbl []) (tbl_ok (by simp)) rfl rfl fun n _ => ⟨rfl, ?_⟩
  simp [cf112, -getElem?_pos, within]
  all_goals (try (first | refine WLV_splitN (fun hs => ?_) (fun hs => ?_) | refine WLC_splitN (fun hs => ?_) (fun hs => ?_) | refine WLB_splitN (fun hs => ?_) (fun hs => ?_) | refine WLPV_splitN (fun hs => ?_) (fun hs => ?_) | refine WLPC_splitN (fun hs => ?_) (fun hs => ?_) | refine WLPV_split (fun hs => ?_) (fun hs => ?_) | refine WLPC_split (fun hs => ?_) (fun hs => ?_) | refine WLV_split (fun hs => ?_) (fun hs => ?_) | refine WLC_split (fun hs => ?_) (fun hs => ?_) | refine WLB_split (fun hs => ?_) (fun hs => ?_)))
  all_goals (try (have hs' := hs; simp at hs'))
  all_goals (try simp [*, -getElem?_pos])
noncomputable abbrev msg_within_F := within_F
noncomputable def TM3 : Tbl := tbl [(111, msg_key_F), (112, msg_within_F)]
theorem TM3_ok : TblOK Tryd.prog TM3 := tbl_ok (by
  simp only [List.mem_cons, List.not_mem_nil, or_false]
  rintro p (rfl | rfl)
  · exact msg_key
  · exact msg_within)
instance : Has TM3 111 msg_key_F := ⟨rfl⟩
instance : Has TM3 112 msg_within_F := ⟨rfl⟩

theorem msg_Pair : Pure Tryd.prog 70 pair_F := by
  refine con TM3_ok rfl rfl fun x _ => ⟨rfl, ?_⟩
  simp [cf70, It_av, IW.cs, -getElem?_pos, IW.pair]
  all_goals (try (first | refine WLV_splitN (fun hs => ?_) (fun hs => ?_) | refine WLC_splitN (fun hs => ?_) (fun hs => ?_) | refine WLB_splitN (fun hs => ?_) (fun hs => ?_) | refine WLPV_splitN (fun hs => ?_) (fun hs => ?_) | refine WLPC_splitN (fun hs => ?_) (fun hs => ?_) | refine WLPV_split (fun hs => ?_) (fun hs => ?_) | refine WLPC_split (fun hs => ?_) (fun hs => ?_) | refine WLV_split (fun hs => ?_) (fun hs => ?_) | refine WLC_split (fun hs => ?_) (fun hs => ?_) | refine WLB_split (fun hs => ?_) (fun hs => ?_)))
  all_goals (try (have hs' := hs; simp at hs'))
  all_goals (try simp [*, -getElem?_pos])
  all_goals (try (first | refine WLV_splitN (fun hs => ?_) (fun hs => ?_) | refine WLC_splitN (fun hs => ?_) (fun hs => ?_) | refine WLB_splitN (fun hs => ?_) (fun hs => ?_) | refine WLPV_splitN (fun hs => ?_) (fun hs => ?_) | refine WLPC_splitN (fun hs => ?_) (fun hs => ?_) | refine WLPV_split (fun hs => ?_) (fun hs => ?_) | refine WLPC_split (fun hs => ?_) (fun hs => ?_) | refine WLV_split (fun hs => ?_) (fun hs => ?_) | refine WLC_split (fun hs => ?_) (fun hs => ?_) | refine WLB_split (fun hs => ?_) (fun hs => ?_)))
  all_goals (try (have hs' := hs; simp at hs'))
  all_goals (try simp [*, -getElem?_pos])
noncomputable abbrev msg_Pair_F := pair_F
theorem keyB_len (s : List UInt8) : keyB s = (decide (1 ≤ (s.length : Int)) && decide ((s.length : Int) ≤ 20)) := by
  unfold keyB
  cases s with
  | nil => rfl
  | cons a s => rw [Bool.eq_iff_iff]; simp; omega
theorem garlandref06_Pair : Pure Tryd.prog 97 pair_F := by
  refine con (T := tbl []) (tbl_ok (by simp)) rfl rfl fun x _ => ⟨rfl, ?_⟩
  simp [cf97, It_av, IW.cs, -getElem?_pos, IW.pair]
  all_goals (try (first | refine WLV_splitN (fun hs => ?_) (fun hs => ?_) | refine WLC_splitN (fun hs => ?_) (fun hs => ?_) | refine WLB_splitN (fun hs => ?_) (fun hs => ?_) | refine WLPV_splitN (fun hs => ?_) (fun hs => ?_) | refine WLPC_splitN (fun hs => ?_) (fun hs => ?_) | refine WLPV_split (fun hs => ?_) (fun hs => ?_) | refine WLPC_split (fun hs => ?_) (fun hs => ?_) | refine WLV_split (fun hs => ?_) (fun hs => ?_) | refine WLC_split (fun hs => ?_) (fun hs => ?_) | refine WLB_split (fun hs => ?_) (fun hs => ?_)))
  all_goals (try (have hs' := hs; simp at hs'))
  all_goals (try simp [*, -getElem?_pos])
  all_goals (try (first | refine WLV_splitN (fun hs => ?_) (fun hs => ?_) | refine WLC_splitN (fun hs => ?_) (fun hs => ?_) | refine WLB_splitN (fun hs => ?_) (fun hs => ?_) | refine WLPV_splitN (fun hs => ?_) (fun hs => ?_) | refine WLPC_splitN (fun hs => ?_) (fun hs => ?_) | refine WLPV_split (fun hs => ?_) (fun hs => ?_) | refine WLPC_split (fun hs => ?_) (fun hs => ?_) | refine WLV_split (fun hs => ?_) (fun hs => ?_) | refine WLC_split (fun hs => ?_) (fun hs => ?_) | refine WLB_split (fun hs => ?_) (fun hs => ?_)))
  all_goals (try (have hs' := hs; simp at hs'))
  all_goals (try simp [*, -getElem?_pos])
  all_goals (try (first | refine WLV_splitN (fun hs => ?_) (fun hs => ?_) | refine WLC_splitN (fun hs => ?_) (fun hs => ?_) | refine WLB_splitN (fun hs => ?_) (fun hs => ?_) | refine WLPV_splitN (fun hs => ?_) (fun hs => ?_) | refine WLPC_splitN (fun hs => ?_) (fun hs => ?_) | refine WLPV_split (fun hs => ?_) (fun hs => ?_) | refine WLPC_split (fun hs => ?_) (fun hs => ?_) | refine WLV_split (fun hs => ?_) (fun hs => ?_) | refine WLC_split (fun hs => ?_) (fun hs => ?_) | refine WLB_split (fun hs => ?_) (fun hs => ?_)))
  all_goals (try (have hs' := hs; simp at hs'))
  all_goals (try simp [*, -getElem?_pos])
  all_goals (try (first | refine WLV_splitN (fun hs => ?_) (fun hs => ?_) | refine WLC_splitN (fun hs => ?_) (fun hs => ?_) | refine WLB_splitN (fun hs => ?_) (fun hs => ?_) | refine WLPV_splitN (fun hs => ?_) (fun hs => ?_) | refine WLPC_splitN (fun hs => ?_) (fun hs => ?_) | refine WLPV_split (fun hs => ?_) (fun hs => ?_) | refine WLPC_split (fun hs => ?_) (fun hs => ?_) | refine WLV_split (fun hs => ?_) (fun hs => ?_) | refine WLC_split (fun hs => ?_) (fun hs => ?_) | refine WLB_split (fun hs => ?_) (fun hs => ?_)))
  all_goals (try (have hs' := hs; simp at hs'))
  all_goals (try simp [*, -getElem?_pos])
  all_goals (try (first | refine WLV_splitN (fun hs => ?_) (fun hs => ?_) | refine WLC_splitN (fun hs => ?_) (fun hs => ?_) | refine WLB_splitN (fun hs => ?_) (fun hs => ?_) | refine WLPV_splitN (fun hs => ?_) (fun hs => ?_) | refine WLPC_splitN (fun hs => ?_) (fun hs => ?_) | refine WLPV_split (fun hs => ?_) (fun hs => ?_) | refine WLPC_split (fun hs => ?_) (fun hs => ?_) | refine WLV_split (fun hs => ?_) (fun hs => ?_) | refine WLC_split (fun hs => ?_) (fun hs => ?_) | refine WLB_split (fun hs => ?_) (fun hs => ?_)))
  all_goals (try (have hs' := hs; simp at hs'))
  all_goals (try simp [*, -getElem?_pos])
  all_goals (try (first | refine WLV_splitN (fun hs => ?_) (fun hs => ?_) | refine WLC_splitN (fun hs => ?_) (fun hs => ?_) | refine WLB_splitN (fun hs => ?_) (fun hs => ?_) | refine WLPV_splitN (fun hs => ?_) (fun hs => ?_) | refine WLPC_splitN (fun hs => ?_) (fun hs => ?_) | refine WLPV_split (fun hs => ?_) (fun hs => ?_) | refine WLPC_split (fun hs => ?_) (fun hs => ?_) | refine WLV_split (fun hs => ?_) (fun hs => ?_) | refine WLC_split (fun hs => ?_) (fun hs => ?_) | refine WLB_split (fun hs => ?_) (fun hs => ?_)))
  all_goals (try (have hs' := hs; simp at hs'))
  all_goals (try simp [*, -getElem?_pos])
  all_goals (try simp [keyB_len, within, *])
  all_goals (try omega)
noncomputable abbrev garlandref06_Pair_F := pair_F
end Go.Proofs.YtfifgiopdbdeoaaDoor.Lite
namespace Go.Proofs.YtfifgiopdbdeoaaDoor.Lite
open Go

def MW.zero : MW := ⟨0, 0, 0, 0, 0, false, false, 0, 0, [], [], 0, 0, false, 0, by decide⟩
def MW.tell (m : MW) : MW := bif m.asks then { MW.zero with kind := m.kind + 6, call := m.call, src := m.dest, dest := m.src } else MW.zero
noncomputable def tell_F := orcOf (fun m : MW => [Mg m]) (fun _ => True) (fun m => [Mg m.tell])
instance (m : MW) : Tells tell_F [.agg m.cs] (.agg m.tell.cs) := ⟨[Mg m], [Mg m.tell], toM m, orcM m, rfl, rfl, fun _ _ => rfl⟩
theorem wrap8 {n : Int} (h : (decide (n > 0) && decide (n ≤ 6)) = true) : IntKind.u8.wrap (n + 6) = n + 6 := by
  simp at h
  simp [IntKind.wrap, IntKind.bits, IntKind.signed]; omega
theorem mcs_0 (m : MW) : m.cs[0]? = some (.d (.int .u8 m.kind)) := rfl
theorem mcs_1 (m : MW) : m.cs[1]? = some (.d (.int .i64 m.call)) := rfl
end Go.Proofs.YtfifgiopdbdeoaaDoor.Lite
namespace Go.Proofs.YtfifgiopdbdeoaaDoor.Lite
open Go
attribute [local simp] WL_of WL_nil WL_blk WL_skip WL_label WL_exit WL_goto WL_seq WL_block WL_cond WL_reg WL_ret WJ_nil WJ_ex WJ_gt WJ_rt WJ_exb WJ_gtb WJ_rtb WLO_nil WLO_call WO_nw stepN WO_mv WO_pick WO_new WO_box WO_ld WO_ldn WO_st WO_off WO_ixa WO_ixs WO_fld WO_fldn WO_ixv WO_ixvn WO_ixb WO_bin WO_eqb WO_isn WO_eqs WO_not WO_conv WO_mkf WO_bld WO_bls WO_sla WO_sls WO_sl0 WO_len WO_app WO_mnx WO_ext WO_nilc wants_none wants_some wantv_b wantv_t WLV_true WLV_false WLC_false WLB_true WLB_false evX_t evX_c evXs_nil evXs_cons look_put look_putN look_cons look_arg0 look_arg stepK binOpA intOp strOp evRes oneOf outs gc toDV AV.dat? I Bo av_s List.map List.append_nil getO putO AV.cellsOf bne WL_dreg WLP_nil WLP_call WP_mv WP_pick WP_new WP_box WP_ld WP_ldn WP_off WP_ixa WP_ixs WP_fld WP_fldn WP_ixv WP_ixvn WP_ixb WP_bin WP_eqb WP_isn WP_eqs WP_not WP_conv WP_mkf WP_bld WP_bls WP_sla WP_sls WP_sl0 WP_len WP_app WP_mnx WP_ext WP_nilc WLPV_true WLPV_false WLPC_false WLC_tells WLPC_tells padH onNm onEx List.getElem?_cons_zero List.getElem?_cons_succ List.getElem?_nil restrict AV.lows lay AV.isCell lowObj AObj.lows WJ_nm AV.lows.go WL_scope onGt_rt onGt_nm onGt_ex WL_sreg WP_st preSt eraseB List.set_cons_zero List.set_cons_succ frz cutR cutAs cutA WL_sregT cutB cutBs

theorem toSI (l : List Int) (n : Int) (h : Heap) : toDVs h [.d (.sl (rowsI l)), .d (.int .i64 n)] = some [SI l, I n] := rfl
theorem orcSI {out : List Int × Int → List DV} {l : List Int} {n : Int} (h : l.length < 9223372036854775808) : orcOf (fun p : List Int × Int => [SI p.1, I p.2]) (fun p => p.1.length < 9223372036854775808) out [SI l, I n] = some (out (l, n)) :=
  orcOf_eq (enc := fun p : List Int × Int => [SI p.1, I p.2]) (x := (l, n)) h (fun y h => by
    simp only [I, SI, List.cons.injEq, DV.s.injEq, Dat.int.injEq, Dat.sl.injEq, true_and, and_true] at h
    exact Prod.ext (rowsI_inj h.1) h.2)

def idxF (n : Int) : Nat → List Int → Int
  | _, [] => -1
  | i, x :: l => bif n == x then i else idxF n (i + 1) l
noncomputable def idx_F := orcOf (fun p : List Int × Int => [SI p.1, I p.2]) (fun p => p.1.length < 9223372036854775808) (fun p => [I (idxF p.2 0 p.1)])
instance (l : List Int) (n : Int) [h : Fact (l.length < 9223372036854775808)] : Tells idx_F [.d (.sl (rowsI l)), .d (.int .i64 n)] (.d (.int .i64 (idxF n 0 l))) := ⟨_, [I (idxF n 0 l)], toSI l n, orcSI h.out, rfl, rfl, fun _ _ => rfl⟩
def L104 : CCode := (.loop [0, 1, 7, 8] (.seq (.reg (⟨(some 9), .bin .lss (.t 8) (.t 7), none⟩ ::
    []))
  (.seq (.cond (.t 9) .skip (.exit 0))
  (.seq (.block 1 (.seq (.reg (⟨(some 10), .mv (.t 8), none⟩ ::
    ⟨(some 5), .mv (.t 10), none⟩ ::
    []))
  (.seq (.reg (⟨(some 11), .mv (.t 1), none⟩ ::
    ⟨(some 12), .mv (.t 0), none⟩ ::
    ⟨(some 13), .mv (.t 5), none⟩ ::
    ⟨(some 14), .ixs 1 (.t 12) (.t 13), none⟩ ::
    ⟨(some 15), .ld (.t 14), none⟩ ::
    ⟨(some 16), .bin .eql (.t 11) (.t 15), none⟩ ::
    []))
  (.cond (.t 16) (.seq (.reg (⟨(some 17), .mv (.t 5), none⟩ ::
    ⟨(some 4), .mv (.t 17), none⟩ ::
    []))
  .ret) .skip))))
  (.reg (⟨(some 18), .bin .add (.t 8) (.c (.d (.int .i64 1))), none⟩ ::
    ⟨(some 8), .mv (.t 18), none⟩ ::
    []))))))
theorem L104_eq : L104 = .loop [0, 1, 7, 8] (.seq (.reg (⟨(some 9), .bin .lss (.t 8) (.t 7), none⟩ ::
    []))
  (.seq (.cond (.t 9) .skip (.exit 0))
  (.seq (.block 1 (.seq (.reg (⟨(some 10), .mv (.t 8), none⟩ ::
    ⟨(some 5), .mv (.t 10), none⟩ ::
    []))
  (.seq (.reg (⟨(some 11), .mv (.t 1), none⟩ ::
    ⟨(some 12), .mv (.t 0), none⟩ ::
    ⟨(some 13), .mv (.t 5), none⟩ ::
    ⟨(some 14), .ixs 1 (.t 12) (.t 13), none⟩ ::
    ⟨(some 15), .ld (.t 14), none⟩ ::
    ⟨(some 16), .bin .eql (.t 11) (.t 15), none⟩ ::
    []))
  (.cond (.t 16) (.seq (.reg (⟨(some 17), .mv (.t 5), none⟩ ::
    ⟨(some 4), .mv (.t 17), none⟩ ::
    []))
  .ret) .skip))))
  (.reg (⟨(some 18), .bin .add (.t 8) (.c (.d (.int .i64 1))), none⟩ ::
    ⟨(some 8), .mv (.t 18), none⟩ ::
    []))))) := rfl
theorem idx_loop (l : List Int) (n : Int) (hl : l.length < 9223372036854775808) : ∀ (k i : Nat), l.length - i = k → i ≤ l.length → ∀ (env : Env), look env 0 = some (vsI l) → look env 1 = some (.d (.int .i64 n)) → look env 7 = some (.d (.int .i64 l.length)) → look env 8 = some (.d (.int .i64 i)) →
    ∀ (Q : Ex → Env → St → Prop), (idxF n i (l.drop i) = -1 → ∀ env', Q (.ex 0) env' ⟨[], []⟩) → (∀ env', look env' 4 = some (.d (.int .i64 (idxF n i (l.drop i)))) → Q .rt env' ⟨[], []⟩) → W (tbl []) ⟨[], 0⟩ L104 env ⟨[], []⟩ Q := by
  intro k
  induction k with
  | zero =>
    intro i hk hi env h0 h1 h7 h8 Q hQ1 hQ2
    have hlt : ¬ i < l.length := by omega
    rw [L104_eq, W_loop]
    simp [-getElem?_pos, h0, h1, h7, h8, hlt]
    exact hQ1 (by rw [List.drop_eq_nil_of_le (by omega)]; rfl) _
  | succ k ih =>
    intro i hk hi env h0 h1 h7 h8 Q hQ1 hQ2
    have hlt : i < l.length := by omega
    obtain ⟨m, hn⟩ : ∃ m, l[i]? = some m := ⟨_, List.getElem?_eq_getElem hlt⟩
    have hd : l.drop i = m :: l.drop (i + 1) := by rw [List.drop_eq_getElem_cons hlt]; congr 1; exact (List.getElem?_eq_some_iff.1 hn).2
    have hw := wrapN1 i (by omega)
    rw [L104_eq, W_loop]
    simp [-getElem?_pos, h0, h1, h7, h8, hlt, rowsI_get, hn, -Int.natCast_add]
    all_goals (try (first | refine WLV_splitN (fun hs => ?_) (fun hs => ?_) | refine WLC_splitN (fun hs => ?_) (fun hs => ?_) | refine WLB_splitN (fun hs => ?_) (fun hs => ?_) | refine WLPV_splitN (fun hs => ?_) (fun hs => ?_) | refine WLPC_splitN (fun hs => ?_) (fun hs => ?_) | refine WLPV_split (fun hs => ?_) (fun hs => ?_) | refine WLPC_split (fun hs => ?_) (fun hs => ?_) | refine WLV_split (fun hs => ?_) (fun hs => ?_) | refine WLC_split (fun hs => ?_) (fun hs => ?_) | refine WLB_split (fun hs => ?_) (fun hs => ?_)))
    all_goals (try (have hs' := hs; simp at hs'))
    all_goals (try simp [*, -getElem?_pos, h0, h1, h7, h8, -Int.natCast_add])
    · refine hQ2 _ ?_
      rw [hd]; simp [*, -getElem?_pos, idxF]
    · refine (WL_of (c := L104)).1 (ih (i + 1) (by omega) (by omega) _ ?_ ?_ ?_ ?_ Q (fun h => hQ1 ?_) (fun env' h => hQ2 env' ?_))
      · simp [-getElem?_pos, h0]
      · simp [-getElem?_pos, h1]
      · simp [-getElem?_pos, h7]
      · simp [-getElem?_pos, hw, -Int.natCast_add]
      · rw [hd]; simp [idxF, *]
      · rw [h, hd]; simp [idxF, *]
theorem slices_Index : Pure Tryd.prog 124 idx_F := by
  refine con (T := tbl []) (tbl_ok (by simp)) rfl rfl fun ⟨l, n⟩ hl => ⟨rfl, ?_⟩
  simp [cf124, -getElem?_pos, SI, stepK.lenA, rowsI_length]
  rw [WL_code]
  refine idx_loop l n hl l.length 0 (by omega) (by omega) _ ?_ ?_ ?_ ?_ _ (fun h env' => ?_) (fun env' h => ?_)
  all_goals (try (simp [-getElem?_pos]; done))
  · simp at h; simp [-getElem?_pos, h]
  · simp at h; simp [-getElem?_pos, h]
noncomputable abbrev slices_Index_F := idx_F
theorem idx_mem (n : Int) : ∀ (l : List Int) (i : Nat), decide (0 ≤ idxF n i l) = decide (n ∈ l)
  | [], i => by simp [idxF]
  | x :: l, i => by
    unfold idxF
    cases h : n == x with
    | true =>
      have : n = x := by simpa using h
      subst this
      simp
    | false =>
      have : ¬ n = x := by simpa using h
      simp only [cond_false, idx_mem n l (i + 1), List.mem_cons, this, false_or]
noncomputable def mem_F := orcOf (fun p : List Int × Int => [SI p.1, I p.2]) (fun p => p.1.length < 9223372036854775808) (fun p => [Bo (decide (p.2 ∈ p.1))])
instance (l : List Int) (n : Int) [h : Fact (l.length < 9223372036854775808)] : Tells mem_F [.d (.sl (rowsI l)), .d (.int .i64 n)] (.d (.bool (decide (n ∈ l)))) := ⟨_, [Bo (decide (n ∈ l))], toSI l n, orcSI h.out, rfl, rfl, fun _ _ => rfl⟩
noncomputable abbrev slices_Index__int_int__F := idx_F
theorem slices_Index__int_int_ : Pure Tryd.prog 124 idx_F := slices_Index
noncomputable def TSI : Tbl := tbl [(124, slices_Index_F)]
theorem TSI_ok : TblOK Tryd.prog TSI := tbl_ok (by
  simp only [List.mem_cons, List.not_mem_nil, or_false]
  rintro p (rfl)
  · exact slices_Index)
instance : Has TSI 124 slices_Index_F := ⟨rfl⟩

theorem slices_Contains : Pure Tryd.prog 93 mem_F := by
  refine con TSI_ok rfl rfl fun ⟨l, n⟩ hl => ⟨rfl, ?_⟩
  haveI : Fact (l.length < 9223372036854775808) := ⟨hl⟩
  simp [cf93, -getElem?_pos, SI]
  have := idx_mem n l 0
  simpa using this
noncomputable abbrev slices_Contains_F := mem_F

noncomputable def eqL_F := orcOf (fun p : List Int × List Int => [SI p.1, SI p.2]) (fun p => p.1.length < 9223372036854775808 ∧ p.2.length < 9223372036854775808) (fun p => [Bo (p.1 == p.2)])
instance (l k : List Int) [h : Fact (l.length < 9223372036854775808)] [h2 : Fact (k.length < 9223372036854775808)] : Tells eqL_F [.d (.sl (rowsI l)), .d (.sl (rowsI k))] (.d (.bool (l == k))) :=
  ⟨[SI l, SI k], [Bo (l == k)], fun _ => rfl, orcOf_eq (enc := fun p : List Int × List Int => [SI p.1, SI p.2]) (x := (l, k)) ⟨h.out, h2.out⟩ (fun y h => by
    simp only [SI, List.cons.injEq, DV.s.injEq, Dat.sl.injEq, and_true] at h
    exact Prod.ext (rowsI_inj h.1) (rowsI_inj h.2)), rfl, rfl, fun _ _ => rfl⟩
def L97 : CCode := (.loop [0, 1, 12, 13] (.seq (.reg (⟨(some 14), .bin .lss (.t 13) (.t 12), none⟩ ::
    []))
  (.seq (.cond (.t 14) .skip (.exit 0))
  (.seq (.block 1 (.seq (.reg (⟨(some 15), .mv (.t 13), none⟩ ::
    ⟨(some 5), .mv (.t 15), none⟩ ::
    []))
  (.seq (.dreg (⟨(some 16), .mv (.t 0), none⟩ ::
    ⟨(some 17), .mv (.t 5), none⟩ ::
    ⟨(some 18), .ixs 1 (.t 16) (.t 17), none⟩ ::
    ⟨(some 19), .ld (.t 18), none⟩ ::
    ⟨(some 20), .mv (.t 1), none⟩ ::
    ⟨(some 21), .mv (.t 5), none⟩ ::
    ⟨(some 22), .ixs 1 (.t 20) (.t 21), none⟩ ::
    ⟨(some 23), .ld (.t 22), none⟩ ::
    []) (⟨(some 24), .bin .neq (.t 19) (.t 23), none⟩ ::
    []))
  (.cond (.t 24) (.seq (.reg (⟨(some 4), .mv (.c (.d (.bool false))), none⟩ ::
    []))
  .ret) .skip))))
  (.reg (⟨(some 25), .bin .add (.t 13) (.c (.d (.int .i64 1))), none⟩ ::
    ⟨(some 13), .mv (.t 25), none⟩ ::
    []))))))
theorem L97_eq : L97 = .loop [0, 1, 12, 13] (.seq (.reg (⟨(some 14), .bin .lss (.t 13) (.t 12), none⟩ ::
    []))
  (.seq (.cond (.t 14) .skip (.exit 0))
  (.seq (.block 1 (.seq (.reg (⟨(some 15), .mv (.t 13), none⟩ ::
    ⟨(some 5), .mv (.t 15), none⟩ ::
    []))
  (.seq (.dreg (⟨(some 16), .mv (.t 0), none⟩ ::
    ⟨(some 17), .mv (.t 5), none⟩ ::
    ⟨(some 18), .ixs 1 (.t 16) (.t 17), none⟩ ::
    ⟨(some 19), .ld (.t 18), none⟩ ::
    ⟨(some 20), .mv (.t 1), none⟩ ::
    ⟨(some 21), .mv (.t 5), none⟩ ::
    ⟨(some 22), .ixs 1 (.t 20) (.t 21), none⟩ ::
    ⟨(some 23), .ld (.t 22), none⟩ ::
    []) (⟨(some 24), .bin .neq (.t 19) (.t 23), none⟩ ::
    []))
  (.cond (.t 24) (.seq (.reg (⟨(some 4), .mv (.c (.d (.bool false))), none⟩ ::
    []))
  .ret) .skip))))
  (.reg (⟨(some 25), .bin .add (.t 13) (.c (.d (.int .i64 1))), none⟩ ::
    ⟨(some 13), .mv (.t 25), none⟩ ::
    []))))) := rfl
theorem eq_loop (l r : List Int) (hl : l.length < 9223372036854775808) (hlr : l.length = r.length) : ∀ (k i : Nat), l.length - i = k → i ≤ l.length → ∀ (env : Env), look env 0 = some (vsI l) → look env 1 = some (vsI r) → look env 12 = some (.d (.int .i64 l.length)) → look env 13 = some (.d (.int .i64 i)) →
    ∀ (Q : Ex → Env → St → Prop), (l.drop i = r.drop i → ∀ env', Q (.ex 0) env' ⟨[], []⟩) → (l.drop i ≠ r.drop i → ∀ env' h', look env' 4 = some (.d (.bool false)) → Q .rt env' ⟨h', []⟩) → W (tbl []) ⟨[], 0⟩ L97 env ⟨[], []⟩ Q := by
  intro k
  induction k with
  | zero =>
    intro i hk hi env h0 h1 h12 h13 Q hQ1 hQ2
    have hlt : ¬ i < l.length := by omega
    rw [L97_eq, W_loop]
    simp [-getElem?_pos, h0, h1, h12, h13, hlt]
    exact hQ1 (by rw [List.drop_eq_nil_of_le (by omega), List.drop_eq_nil_of_le (by omega)]) _
  | succ k ih =>
    intro i hk hi env h0 h1 h12 h13 Q hQ1 hQ2
    have hlt : i < l.length := by omega
    obtain ⟨m, hn⟩ : ∃ m, l[i]? = some m := ⟨_, List.getElem?_eq_getElem hlt⟩
    obtain ⟨m2, hn2⟩ : ∃ m, r[i]? = some m := ⟨_, List.getElem?_eq_getElem (by omega)⟩
    have hd : l.drop i = m :: l.drop (i + 1) := by rw [List.drop_eq_getElem_cons hlt]; congr 1; exact (List.getElem?_eq_some_iff.1 hn).2
    have hd2 : r.drop i = m2 :: r.drop (i + 1) := by rw [List.drop_eq_getElem_cons (by omega)]; congr 1; exact (List.getElem?_eq_some_iff.1 hn2).2
    have hw := wrapN1 i (by omega)
    rw [L97_eq, W_loop]
    simp [-getElem?_pos, h0, h1, h12, h13, hlt, rowsI_get, hn, hn2, -Int.natCast_add]
    all_goals (try (first | refine WLV_splitN (fun hs => ?_) (fun hs => ?_) | refine WLC_splitN (fun hs => ?_) (fun hs => ?_) | refine WLB_splitN (fun hs => ?_) (fun hs => ?_) | refine WLPV_splitN (fun hs => ?_) (fun hs => ?_) | refine WLPC_splitN (fun hs => ?_) (fun hs => ?_) | refine WLPV_split (fun hs => ?_) (fun hs => ?_) | refine WLPC_split (fun hs => ?_) (fun hs => ?_) | refine WLV_split (fun hs => ?_) (fun hs => ?_) | refine WLC_split (fun hs => ?_) (fun hs => ?_) | refine WLB_split (fun hs => ?_) (fun hs => ?_)))
    all_goals (try (have hs' := hs; simp at hs'))
    all_goals (try simp [*, -getElem?_pos, h0, h1, h12, h13, -Int.natCast_add])
    all_goals first
      | (refine hQ2 (by rw [hd, hd2]; simp [*]) _ _ ?_; simp [-getElem?_pos]; done)
      | (refine (WL_of (c := L97)).1 (ih (i + 1) (by omega) (by omega) _ ?_ ?_ ?_ ?_ Q (fun h => hQ1 ?_) (fun h => hQ2 ?_))
         · simp [-getElem?_pos, h0]
         · simp [-getElem?_pos, h1]
         · simp [-getElem?_pos, h12, hlr]
         · simp [-getElem?_pos, hw, -Int.natCast_add]
         · rw [hd, hd2, h]; simp [*]
         · rw [hd, hd2]; simp [*])
theorem slices_Equal : Pure Tryd.prog 109 eqL_F := by
  refine con (T := tbl []) (tbl_ok (by simp)) rfl rfl fun ⟨l, r⟩ hl => ⟨rfl, ?_⟩
  by_cases hlr : l.length = r.length
  · simp [cf109, -getElem?_pos, SI, stepK.lenA, rowsI_length, hlr]
    rw [WL_code]
    refine eq_loop l r hl.1 hlr l.length 0 (by omega) (by omega) _ ?_ ?_ ?_ ?_ _ (fun h env' => ?_) (fun h env' h' h4 => ?_)
    all_goals (try (simp [-getElem?_pos, hlr]; done))
    · simp at h; subst h; simp [-getElem?_pos]
    · have e : (l == r) = false := by rw [beq_eq_false_iff_ne]; simpa using h
      simp [-getElem?_pos, h4, e]
  · have e : ((l.length : Int) == (r.length : Int)) = false := by rw [beq_eq_false_iff_ne]; omega
    have e2 : (l == r) = false := by rw [beq_eq_false_iff_ne]; rintro rfl; exact hlr rfl
    simp [cf109, -getElem?_pos, SI, stepK.lenA, rowsI_length, e, e2]
noncomputable abbrev slices_Equal_F := eqL_F
end Go.Proofs.YtfifgiopdbdeoaaDoor.Lite
