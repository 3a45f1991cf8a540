/- A part of the proof of: LookCloser: whatever the views, the place, and whose look it is: the law is true, and its arguments stay as they were. No condition but those of the row itself. -/
import Derived.LoopNIn
import Derived.Test.YtbeocehhclfbiaaProg
import Derived.KernelRfl
import Derived.Test.YtbeocehhclfbiaaHc2
import Derived.Test.YtbeocehhclfbiaaHc3
set_option linter.unusedSimpArgs false
set_option linter.unusedVariables false
namespace Go.Proofs.Ytbeocehhclfbiaa.Lite
open Go Go.RowKit

def exRel : Ex → Exit
  | .nm => .normal
  | .ex id => .exit id
  | .gt l => .goto l
  | .rt => .ret

def CPost (P : Program) (nt B : Nat) (c : Cx) (st : St) (lp : List (Option LRec)) (wp : Nat) (ex : Ex) (env' : Env) (st' : St) : Exit → Act → World → Prop := fun e a' w' =>
  e = exRel ex ∧ ∃ c', c'.w = w' ∧ c'.N = st'.h.length ∧ StRel P c' st' lp ∧ Ext c c' st st' lp wp ∧ EnvRel c' env' a'.tmps ∧ a'.tmps.size = nt ∧ DefsOK B w' a'.defers

structure Pre (P : Program) (nt B : Nat) (rd : Rd) (c : Cx) (st : St) (env : Env) (a : Act) (ro : Option Nat) : Prop where
  s : StRel P c st rd.lp
  N : c.N = st.h.length
  wp : rd.wp ≤ st.h.length
  he : EnvRel c env a.tmps
  hz : a.tmps.size = nt
  hd : DefsOK B c.w a.defers
  hB : B ≤ c.w.heap.size
  ro : ∀ l₀, ro = some l₀ → ∃ i, i < c.M ∧ c.lm i = l₀

theorem Pre.next {P : Program} {nt B : Nat} {rd : Rd} {c c' : Cx} {st st' : St} {env env' : Env} {a a' : Act} {ro : Option Nat} (p : Pre P nt B rd c st env a ro) (N : c'.N = st'.h.length) (s : StRel P c' st' rd.lp) (x : Ext c c' st st' rd.lp rd.wp)
    (he : EnvRel c' env' a'.tmps) (hz : a'.tmps.size = nt) (hd : DefsOK B c'.w a'.defers) : Pre P nt B rd c' st' env' a' ro :=
  ⟨s, N, Nat.le_trans p.wp x.len, he, hz, hd, Nat.le_trans p.hB x.size, fun l₀ h => by
    obtain ⟨i, h1, h2⟩ := p.ro l₀ h
    exact ⟨i, by rw [x.m]; exact h1, by rw [x.lm i h1]; exact h2⟩⟩

theorem CPost.trans {P : Program} {nt B : Nat} {c c1 : Cx} {st st1 st' : St} {lp : List (Option LRec)} {wp : Nat} {ex : Ex} {env' : Env} (x : Ext c c1 st st1 lp wp) {e : Exit} {a : Act} {w : World} (h : CPost P nt B c1 st1 lp wp ex env' st' e a w) : CPost P nt B c st lp wp ex env' st' e a w := by
  obtain ⟨h1, c', h2, h3, h4, h5, h6⟩ := h
  exact ⟨h1, c', h2, h3, h4, x.trans h5, h6⟩

def CodeOK (P : Program) (T : Tbl) (n : Nat) : Prop := ∀ (rd : Rd) (cc : CCode) (env : Env) (st : St) (ex : Ex) (env' : Env) (st' : St), evCode T n rd cc env st = some (ex, env', st') →
  ∀ (nt : Nat) (code : Code), chkCode P nt code cc = true → ∀ (B : Nat) (c : Cx) (a : Act) (ro : Option Nat), Pre P nt B rd c st env a ro → code.wpIn (FW ro) 0 P (CPost P nt B c st rd.lp rd.wp ex env' st') a c.w

def LoopOK (P : Program) (T : Tbl) (n : Nat) : Prop := ∀ (rd : Rd) (keep : List Nat) (b : CCode) (env : Env) (st : St) (ex : Ex) (env' : Env) (st' : St), evCode T n rd (.loop keep b) env st = some (ex, env', st') →
  ∀ (nt : Nat) (code : Code), chkCode P nt code b = true → ∀ (B : Nat) (c : Cx) (a : Act) (ro : Option Nat), Pre P nt B rd c st env a ro → Code.roundsIn (FW ro) 0 P code (CPost P nt B c st rd.lp rd.wp ex env' st') n a c.w

def ScopeOK (P : Program) (T : Tbl) (n : Nat) : Prop := ∀ (rd : Rd) (keep : List Nat) (whole cc : CCode) (env : Env) (st : St) (ex : Ex) (env' : Env) (st' : St), evScope T n rd keep whole cc env st = some (ex, env', st') →
  ∀ (nt : Nat) (wcode code : Code), chkCode P nt wcode whole = true → chkCode P nt code cc = true → ∀ (B : Nat) (c : Cx) (a : Act) (ro : Option Nat), Pre P nt B rd c st env a ro → jumpsIn (FW ro) 0 P wcode (CPost P nt B c st rd.lp rd.wp ex env' st') n code a c.w

theorem look_mem : ∀ {env : Env} {t : Nat} {x : AV}, look env t = some x → x ∈ env.map (·.2)
  | (k, v) :: r, t, x, h => by
    simp only [look] at h
    split at h
    · cases h; simp
    · exact List.mem_cons_of_mem _ (look_mem h)

/-- Behind a round or a jump: what is kept of the temporaries; what was made since is let go. -/
theorem Pre.gc {P : Program} {nt B : Nat} {rd : Rd} {c c1 : Cx} {st st1 : St} {env env1 : Env} {a a1 : Act} {ro : Option Nat} (p : Pre P nt B rd c st env a ro) (N : c1.N = st1.h.length) (s : StRel P c1 st1 rd.lp) (x : Ext c c1 st st1 rd.lp rd.wp)
    (he : EnvRel c1 env1 a1.tmps) (hz : a1.tmps.size = nt) (hd : DefsOK B c1.w a1.defers) (keep : List Nat) :
    ∃ c2, c2.w = c1.w ∧ Pre P nt B rd c2 { st1 with h := Lite.gc st.h.length rd.lp.length ((restrict keep env1).map (·.2)) st1.h } (restrict keep env1) a1 ro ∧ Ext c c2 st { st1 with h := Lite.gc st.h.length rd.lp.length ((restrict keep env1).map (·.2)) st1.h } rd.lp rd.wp := by
  obtain ⟨c2, g1, g2, g3, g4, g5⟩ := gc_sound p.s p.N x s N ((restrict keep env1).map (·.2))
  refine ⟨c2, g1, p.next g2 g3 g4 (fun t y hy => ?_) hz (by rw [g1]; exact hd), g4⟩
  have hm := look_mem hy
  rw [look_restrict] at hy
  split at hy
  · obtain ⟨h1, h2⟩ := he t y hy
    exact ⟨h1, g5 y hm _ h2⟩
  · cases hy

/-! ### The record is laid -/
theorem enter_ok {P : Program} {nt B : Nat} {rd : Rd} {c : Cx} {st : St} {env : Env} {a : Act} {ro : Option Nat} (p : Pre P nt B rd c st env a ro) (fn : FuncId) (ps : Array Tmp) (asg body : Code) :
    ∃ l mk w1 dfs, (Instr.enterLoop fn a.tmps ps asg body ro).run P c.w = .ok (l, mk) w1 ∧ Side c.w w1 ∧ c.w.heap.size ≤ l ∧
      w1.heap[l]? = some (.loop { state := .ready, pending := none, fn, tmps := a.tmps, params := ps, assign := asg, body, defers := dfs }) ∧ (∀ b, b < c.w.heap.size → w1.heap[b]? = c.w.heap[b]?) ∧ DefsOK B w1 (mk ++ a.defers) := by
  obtain ⟨bs, h1, h2, h3⟩ := p.hd
  cases ro with
  | some l₀ =>
    obtain ⟨i, hi, rfl⟩ := p.ro l₀ rfl
    obtain ⟨L, hL⟩ := p.s.all i hi
    have pu := Pushed.alloc c.w (.loop { state := .ready, pending := none, fn, tmps := a.tmps, params := ps, assign := asg, body, defers := L.defers })
    refine ⟨_, _, _, L.defers, run_enterLoop_inner hL fn a.tmps ps asg body, Side.alloc _ _, Nat.le_refl _, pu.new, fun b hb => pu.old hb, bs, h1, h2, fun b hb => ⟨(h3 b hb).1, ?_⟩⟩
    rw [pu.old (Array.getElem?_eq_some_iff.1 (h3 b hb).2).1]; exact (h3 b hb).2
  | none =>
    have pu := Pushed.alloc c.w (.deferred (some []))
    have pv := Pushed.alloc (c.w.alloc (.deferred (some []))) (.loop { state := .ready, pending := none, fn, tmps := a.tmps, params := ps, assign := asg, body, defers := c.w.heap.size })
    refine ⟨_, _, _, c.w.heap.size, run_enterLoop_outer fn a.tmps ps asg body, (Side.alloc _ _).trans (Side.alloc _ _), Nat.le_succ _, ?_, fun b hb => ?_, c.w.heap.size :: bs, by rw [h1]; rfl, ?_, fun b hb => ?_⟩
    · have := pv.new; rw [pu.size] at this; exact this
    · rw [pv.old (by rw [pu.size]; omega), pu.old hb]
    · rw [List.nodup_cons]
      exact ⟨fun hm => by have := (Array.getElem?_eq_some_iff.1 (h3 _ hm).2).1; omega, h2⟩
    · rcases List.mem_cons.1 hb with rfl | hb
      · exact ⟨p.hB, by rw [pv.old (by rw [pu.size]; omega)]; exact pu.new⟩
      · have hlt := (Array.getElem?_eq_some_iff.1 (h3 b hb).2).1
        exact ⟨(h3 b hb).1, by rw [pv.old (by rw [pu.size]; omega), pu.old hlt]; exact (h3 b hb).2⟩

def Cx.loop (c : Cx) (l : Nat) (L : Loop) (w : World) : Cx :=
  { c with M := c.M + 1, lm := fun i => if i = c.M then l else c.lm i, lc := fun i => if i = c.M then L else c.lc i, w := w }

theorem loop_le {c : Cx} {h : Heap} (hr : HRel c h) {l : Nat} {L : Loop} {w : World} (s : Side c.w w) : c.le (c.loop l L w) :=
  ⟨Nat.le_refl _, Nat.le_succ _, (Side.le hr s).keeps, fun _ _ => Gh.le_refl _, fun i hi => by simp only [Cx.loop]; rw [if_neg (Nat.ne_of_lt hi)], fun i hi => by simp only [Cx.loop]; rw [if_neg (Nat.ne_of_lt hi)]⟩

theorem Ext.at2 {c c' : Cx} {st st' : St} {lp : List (Option LRec)} {wp : Nat} (x : Ext c c' st st' lp wp) (hr : HRel c' st'.h) {w : World} (s : Side c'.w w) (hb : ∀ b, b < c.w.heap.size → ¬ Own c st.h lp b → w.heap[b]? = c'.w.heap[b]?) : Ext c (c'.at w) st st' lp wp where
  keeps := x.keeps.trans (Side.le hr s).keeps
  gh := x.gh
  n := x.n
  m := x.m
  lm := x.lm
  lc := x.lc
  blk := fun b h1 h2 => (hb b h1 h2).trans (x.blk b h1 h2)
  size := Nat.le_trans x.size s.size
  own := x.own
  os := s.os.trans x.os
  tape := s.tape.trans x.tape
  output := s.output.trans x.output
  pre := x.pre
  len := x.len
  dead := x.dead
  sx := x.sx
  pdx := x.pdx

theorem StRel.at {P : Program} {c : Cx} {st : St} {lp : List (Option LRec)} (s : StRel P c st lp) {w : World} (sd : Side c.w w) (hl : ∀ i, i < c.M → w.heap[c.lm i]? = c.w.heap[c.lm i]?) : StRel P (c.at w) st lp where
  h := s.h.at sd
  m := s.m
  pd := s.pd
  rcd := fun i r hi => by
    obtain ⟨p, h1, h2, h3⟩ := s.rcd i r hi
    have hm : i < c.M := by rw [← s.m]; exact (List.getElem?_eq_some_iff.1 hi).1
    exact ⟨p, h1, by show w.heap[c.lm i]? = _; rw [hl i hm]; exact h2, h3.mono (Side.le s.h sd)⟩
  all := fun i hi => by
    obtain ⟨L, h1⟩ := s.all i hi
    exact ⟨L, by show w.heap[c.lm i]? = _; rw [hl i hi]; exact h1⟩
  inj := s.inj

theorem HRel.upM {c c1 : Cx} {h : Heap} (hr : HRel c h) (hle : c.le c1) (hρ : c1.ρ = c.ρ) (hS : c1.S = c.S) (hb : ∀ b, OwnH c h b → c1.w.heap[b]? = c.w.heap[b]?) : HRel c1 h :=
  hr.mono_same hle hρ (fun b o hs => .inl (by rw [hS] at hs; exact hs)) hb

theorem loop_st {P : Program} {nt B : Nat} {rd : Rd} {c : Cx} {st : St} {env : Env} {a : Act} {ro : Option Nat} (p : Pre P nt B rd c st env a ro) {fn : FuncId} {ps : Array Tmp} {asg body : Code} {asg' b' : CCode} {l : Nat} {w1 : World} {dfs : Nat} (sd : Side c.w w1) (hl : c.w.heap.size ≤ l)
    (hw : w1.heap[l]? = some (.loop { state := .ready, pending := none, fn, tmps := a.tmps, params := ps, assign := asg, body, defers := dfs })) (hb : ∀ b, b < c.w.heap.size → w1.heap[b]? = c.w.heap[b]?)
    (hps : ∀ t ∈ ps.toList, t < nt) (hka : chkCode P nt asg asg' = true) (hkb : chkCode P nt body b' = true) :
    StRel P (c.loop l { state := .ready, pending := none, fn, tmps := a.tmps, params := ps, assign := asg, body, defers := dfs } w1) { st with pd := st.pd ++ [none] } (rd.lp ++ [some { ps := ps.toList, asg := asg', body := b', env }]) := by
  have hle := loop_le p.s.h (l := l) (L := { state := .ready, pending := none, fn, tmps := a.tmps, params := ps, assign := asg, body, defers := dfs }) sd
  have hlt : ∀ i, i < c.M → c.lm i < c.w.heap.size := fun i hi => by obtain ⟨L, hL⟩ := p.s.all i hi; exact (Array.getElem?_eq_some_iff.1 hL).1
  have hol : ∀ i, i < c.M → (c.loop l { state := .ready, pending := none, fn, tmps := a.tmps, params := ps, assign := asg, body, defers := dfs } w1).lm i = c.lm i := fun i hi => by simp only [Cx.loop]; rw [if_neg (Nat.ne_of_lt hi)]
  have hoc : ∀ i, i < c.M → (c.loop l { state := .ready, pending := none, fn, tmps := a.tmps, params := ps, assign := asg, body, defers := dfs } w1).lc i = c.lc i := fun i hi => by simp only [Cx.loop]; rw [if_neg (Nat.ne_of_lt hi)]
  have hnl : (c.loop l { state := .ready, pending := none, fn, tmps := a.tmps, params := ps, assign := asg, body, defers := dfs } w1).lm c.M = l := by simp [Cx.loop]
  have hnc : (c.loop l { state := .ready, pending := none, fn, tmps := a.tmps, params := ps, assign := asg, body, defers := dfs } w1).lc c.M = { state := .ready, pending := none, fn, tmps := a.tmps, params := ps, assign := asg, body, defers := dfs } := by simp [Cx.loop]
  refine ⟨p.s.h.upM hle rfl rfl fun b ho => ?_, ?_, ?_, fun i r hi => ?_, fun i hi => ?_, fun i j hi hj h => ?_⟩
  · obtain ⟨arr, T, fr, h1⟩ := ownH_cells p.s.h ho
    exact hb b (Array.getElem?_eq_some_iff.1 h1).1
  · simp [Cx.loop, p.s.m]
  · simp [Cx.loop, p.s.pd]
  · rcases Nat.lt_or_ge i rd.lp.length with h1 | h1
    · rw [List.getElem?_append_left h1] at hi
      obtain ⟨q, g1, g2, g3⟩ := p.s.rcd i r hi
      have hm : i < c.M := by rw [← p.s.m]; exact h1
      refine ⟨q, by rw [List.getElem?_append_left (by rw [p.s.pd]; exact hm)]; exact g1, ?_, ?_⟩
      · rw [hol i hm, hoc i hm]
        show w1.heap[c.lm i]? = _
        rw [hb _ (hlt i hm)]; exact g2
      · rw [hoc i hm]; exact g3.mono hle
    · have e : i = c.M := by
        have := (List.getElem?_eq_some_iff.1 hi).1
        simp at this
        rw [← p.s.m]; omega
      subst e
      have hr : r = { ps := ps.toList, asg := asg', body := b', env } := by
        rw [← p.s.m] at hi
        simp at hi
        exact hi.symm
      subst hr
      refine ⟨none, by rw [← p.s.pd]; simp, by rw [hnl, hnc]; exact hw, ?_⟩
      rw [hnc]
      exact ⟨rfl, fun t ht => by rw [p.hz]; exact hps t ht, by rw [p.hz]; exact hka, by rw [p.hz]; exact hkb, p.he.mono hle⟩
  · rcases Nat.lt_or_ge i c.M with h1 | h1
    · obtain ⟨L, hL⟩ := p.s.all i h1
      exact ⟨L, by rw [hol i h1]; show w1.heap[c.lm i]? = _; rw [hb _ (hlt i h1)]; exact hL⟩
    · have e : i = c.M := by have : i < c.M + 1 := hi; omega
      subst e
      exact ⟨_, by rw [hnl]; exact hw⟩
  · have hi' : i < c.M + 1 := hi
    have hj' : j < c.M + 1 := hj
    rcases Nat.lt_or_ge i c.M with h1 | h1 <;> rcases Nat.lt_or_ge j c.M with h2 | h2
    · rw [hol i h1, hol j h2] at h; exact p.s.inj i j h1 h2 h
    · have e : j = c.M := by omega
      subst e
      rw [hol i h1, hnl] at h
      have := hlt i h1; omega
    · have e : i = c.M := by omega
      subst e
      rw [hol j h2, hnl] at h
      have := hlt j h2; omega
    · omega
end Go.Proofs.Ytbeocehhclfbiaa.Lite
namespace Go.Proofs.Ytbeocehhclfbiaa.Lite
open Go Go.RowKit

theorem exCode_wp {P : Program} {ro : Option Nat} {Q : Exit → Act → World → Prop} {a : Act} {w : World} (ex : Ex) (h : Q (exRel ex) a w) : (exCode ex).wpIn (FW ro) 0 P Q a w := by
  cases ex with
  | nm => exact wpIn_skip h
  | ex id => exact wpIn_exit h
  | gt l => exact wpIn_goto h
  | rt => exact wpIn_ret h

theorem range_sound {P : Program} {T : Tbl} {n : Nat} (hcall : CallOK P T n) {nt B : Nat} {rd : Rd} {c : Cx} {st : St} {env : Env} {a : Act} {ro : Option Nat} (p : Pre P nt B rd c st env a ro) {f : Operand} {ps : Array Tmp} {asg body : Code} {x : X} {asg' b' : CCode}
    (hf : chkX f x = true) (hps : ∀ t ∈ ps.toList, t < nt) (hka : chkCode P nt asg asg' = true) (hkb : chkCode P nt body b' = true) {g : Nat} {caps : List AV} (hx : evX env x = some (.fn g caps)) {v : AV} {st1 : St}
    (hev : evCall T n { rd with lp := rd.lp ++ [some { ps := ps.toList, asg := asg', body := b', env }] } (.fn g caps) [.yld rd.lp.length] { st with pd := st.pd ++ [none] } = some (v, st1)) (hlow : st1.h.all (lowObj st1.h.length rd.lp.length) = true)
    {q : Option Ex} (hq : st1.pd[rd.lp.length]? = some q) :
    (Code.rangeFunc f ps asg body).wpIn (FW ro) 0 P (CPost P nt B c st rd.lp rd.wp (q.getD .nm) env { st1 with pd := st1.pd.take rd.lp.length }) a c.w := by
  refine wpIn_rangeFunc fun fn _ => ?_
  obtain ⟨l, mk, w1, dfs, hrun, sd, hl, hw, hb, hdef⟩ := enter_ok p fn ps asg body
  have s1 := loop_st p (asg' := asg') (b' := b') sd hl hw hb hps hka hkb
  have hle := loop_le p.s.h (l := l) (L := { state := .ready, pending := none, fn, tmps := a.tmps, params := ps, assign := asg, body, defers := dfs }) sd
  generalize hL : ({ state := .ready, pending := none, fn, tmps := a.tmps, params := ps, assign := asg, body, defers := dfs } : Loop) = L0 at s1 hle hw
  have hL1 : L0.state = .ready ∧ L0.pending = none := by subst hL; exact ⟨rfl, rfl⟩
  have hvf : VRel (c.loop l L0 w1) (.fn g caps) (a.eval f) := (chkX_sound hf p.he hx).mono hle
  have hnl : (c.loop l L0 w1).lm c.M = l := by simp [Cx.loop]
  have hnc : (c.loop l L0 w1).lc c.M = L0 := by simp [Cx.loop]
  have hol : ∀ i, i < c.M → (c.loop l L0 w1).lm i = c.lm i := fun i hi => by simp only [Cx.loop]; rw [if_neg (Nat.ne_of_lt hi)]
  have hoc : ∀ i, i < c.M → (c.loop l L0 w1).lc i = c.lc i := fun i hi => by simp only [Cx.loop]; rw [if_neg (Nat.ne_of_lt hi)]
  have hyl : VRel (c.loop l L0 w1) (.yld rd.lp.length) (.func (.yield l) #[] #[]) := by
    have : VRel (c.loop l L0 w1) (.yld c.M) (.func (.yield ((c.loop l L0 w1).lm c.M)) #[] #[]) := .yld (Nat.lt_succ_self _)
    rw [hnl] at this
    rw [p.s.m]; exact this
  have hgo := hcall _ _ _ _ _ _ hev (c.loop l L0 w1) (a.eval f) #[.func (.yield l) #[] #[]] s1 p.N p.wp hvf rfl (fun j y u hy hu => by
    cases j with
    | zero => simp at hy hu; subst hy; subst hu; exact hyl
    | succ j => simp at hy)
  obtain ⟨arr, hfe, _⟩ := hvf.inv_fn
  rcases hgo with ⟨g', arr', h1, h2, h3⟩ | ⟨l', fn', tmps', asg'', body', h1, _, _⟩
  · refine ⟨l, mk, w1, _, w1, g', #[] ++ Array.map a.eval #[Operand.const (.func (.yield l) #[] #[])] ++ arr', w1, hrun, by rw [resolve_value _ _ _ _ _ h1]; exact rfl, fun _ _ => trivial, ?_, FW_depth ro, ?_⟩
    · simp only [invoke]
      exact h2 _ _
    · have h4 : CallsIn (FW ro) (0 - 1) P g' (#[.func (.yield l) #[] #[]] ++ arr') w1 _ := h3
      have eargs : #[] ++ Array.map a.eval #[Operand.const (.func (.yield l) #[] #[])] ++ arr' = #[.func (.yield l) #[] #[]] ++ arr' := by simp [Act.eval]
      rw [eargs]
      refine h4.mono ?_
      rintro e w3 ⟨u, rfl, c2, rfl, n2, s2, x2, _⟩
      have hM2 : c2.M = c.M + 1 := x2.m
      have hlt2 : c.M < (c.loop l L0 w1).M := Nat.lt_succ_self _
      -- the record
      obtain ⟨q', k1, k2, k3⟩ := s2.rcd c.M { ps := ps.toList, asg := asg', body := b', env } (by rw [← p.s.m]; simp)
      rw [← p.s.m] at k1
      rw [hq] at k1; cases k1
      have hlm2 : c2.lm c.M = l := by rw [x2.lm c.M hlt2, hnl]
      have hlc2 : c2.lc c.M = L0 := by rw [x2.lc c.M hlt2, hnc]
      rw [hlm2, hlc2] at k2
      have hend := run_endLoop (P := P) k2 (by unfold loopAt; cases q <;> simp)
      refine ⟨_, _, hend, ?_⟩
      have hpend : (loopAt L0 q).pending = q.map exCode := rfl
      rw [hpend]
      -- behind it
      have sd2 : Side c2.w (c2.w.putObj l (.loop { loopAt L0 q with state := .exhausted })) := Side.put (fun arr T fr e => by rw [k2] at e; cases e) _ k2
      generalize hw4 : c2.w.putObj l (.loop { loopAt L0 q with state := .exhausted }) = w4 at sd2
      have hother : ∀ b, b ≠ l → w4.heap[b]? = c2.w.heap[b]? := fun b hb' => by rw [← hw4]; exact World.putObj_heap_other hb'
      have hpos : ∀ b, b < c.w.heap.size → b ≠ l := fun b hb' => by omega
      have hr3 : HRel { c2 with N := st1.h.length, M := rd.lp.length } st1.h := by
        have := s2.h.shrink (N := st1.h.length) (M := rd.lp.length) (by rw [n2]; exact Nat.le_refl _) (by rw [List.take_length]; exact hlow)
        rw [List.take_length] at this; exact this
      have hown2 : ∀ b, Own c st.h rd.lp b ↔ (Own (c.loop l L0 w1) st.h (rd.lp ++ [some { ps := ps.toList, asg := asg', body := b', env }]) b ∧ b ≠ l) := by
        intro b
        constructor
        · rintro (h | ⟨i, r, h, h'⟩)
          · obtain ⟨ar, T', fr, hc⟩ := ownH_cells p.s.h h
            exact ⟨.inl h, hpos b (Array.getElem?_eq_some_iff.1 hc).1⟩
          · have hi : i < c.M := by rw [← p.s.m]; exact (List.getElem?_eq_some_iff.1 h).1
            refine ⟨.inr ⟨i, r, by rw [List.getElem?_append_left (List.getElem?_eq_some_iff.1 h).1]; exact h, by rw [hol i hi]; exact h'⟩, ?_⟩
            obtain ⟨LL, hLL⟩ := p.s.all i hi
            rw [← h']; exact hpos _ (Array.getElem?_eq_some_iff.1 hLL).1
        · rintro ⟨h | ⟨i, r, h, h'⟩, hne⟩
          · exact .inl h
          · rcases Nat.lt_or_ge i rd.lp.length with h5 | h5
            · rw [List.getElem?_append_left h5] at h
              rw [hol i (by rw [← p.s.m]; exact h5)] at h'
              exact .inr ⟨i, r, h, h'⟩
            · have : i = c.M := by
                have := (List.getElem?_eq_some_iff.1 h).1
                simp at this; rw [← p.s.m]; omega
              subst this
              rw [hnl] at h'; exact absurd h'.symm hne
      have x3 : Ext c { c2 with N := st1.h.length, M := rd.lp.length } st { st1 with pd := st1.pd.take rd.lp.length } rd.lp rd.wp := by
        refine ⟨(Side.le p.s.h sd).keeps.trans x2.keeps, x2.gh, by show c.N ≤ _; rw [← n2]; exact x2.n, p.s.m, fun i hi => (x2.lm i (Nat.lt_succ_of_lt hi)).trans (hol i hi), fun i hi => (x2.lc i (Nat.lt_succ_of_lt hi)).trans (hoc i hi), fun b hb1 hb2 => ?_, Nat.le_trans sd.size x2.size,
          fun b hb1 => ?_, x2.os.trans sd.os, x2.tape.trans sd.tape, x2.output.trans sd.output, x2.pre, x2.len, x2.dead, fun b z hz => ?_, fun i hi => ?_⟩
        · refine (x2.blk b (Nat.lt_of_lt_of_le hb1 sd.size) fun h => hb2 ((hown2 b).2 ⟨h, hpos b hb1⟩)).trans (hb b hb1)
        · have : Own c2 st1.h (rd.lp ++ [some { ps := ps.toList, asg := asg', body := b', env }]) b := by
            rcases hb1 with h | ⟨i, r, h, h'⟩
            · exact .inl h
            · exact .inr ⟨i, r, by rw [List.getElem?_append_left (List.getElem?_eq_some_iff.1 h).1]; exact h, h'⟩
          rcases x2.own b this with h | h
          · by_cases hbl : b = l
            · exact .inr (by omega)
            · exact .inl ((hown2 b).2 ⟨h, hbl⟩)
          · exact .inr (Nat.le_trans sd.size h)
        · rcases x2.sx b z hz with h | h | h
          · exact .inl h
          · by_cases hbl : b = l
            · exact .inr (.inr (by omega))
            · exact .inr (.inl ((hown2 b).2 ⟨h, hbl⟩))
          · exact .inr (.inr (Nat.le_trans sd.size h))
        · have hil := (List.getElem?_eq_some_iff.1 hi).1
          have := x2.pdx i (by rw [List.getElem?_append_left hil]; exact hi)
          show (st1.pd.take rd.lp.length)[i]? = _
          rw [List.getElem?_take, if_pos hil, this]
          exact List.getElem?_append_left (by rw [p.s.pd, ← p.s.m]; exact hil)
      have s3 : StRel P ({ c2 with N := st1.h.length, M := rd.lp.length } : Cx) { st1 with pd := st1.pd.take rd.lp.length } rd.lp := by
        refine ⟨hr3, rfl, ?_, fun i r hi => ?_, fun i hi => ?_, fun i j hi hj h => ?_⟩
        · have : st1.pd.length = c2.M := s2.pd
          show (st1.pd.take rd.lp.length).length = rd.lp.length
          simp; rw [this, hM2, p.s.m]; omega
        · have hil := (List.getElem?_eq_some_iff.1 hi).1
          obtain ⟨q2, g1, g2, _⟩ := s2.rcd i r (by rw [List.getElem?_append_left hil]; exact hi)
          obtain ⟨_, _, _, g4⟩ := p.s.rcd i r hi
          refine ⟨q2, ?_, g2, ?_⟩
          · show (st1.pd.take rd.lp.length)[i]? = _
            rw [List.getElem?_take, if_pos hil]; exact g1
          · have : c2.lc i = c.lc i := x3.lc i (by rw [← p.s.m]; exact hil)
            show LoopIs P _ r (c2.lc i)
            rw [this]; exact g4.mono x3.cx
        · have hi' : i < rd.lp.length := hi
          exact s2.all i (by rw [hM2, ← p.s.m]; omega)
        · have hi' : i < rd.lp.length := hi
          have hj' : j < rd.lp.length := hj
          exact s2.inj i j (by rw [hM2, ← p.s.m]; omega) (by rw [hM2, ← p.s.m]; omega) h
      have hlne : ∀ i, i < rd.lp.length → c2.lm i ≠ l := fun i hi h => by
        have := s2.inj i c.M (by rw [hM2, ← p.s.m]; omega) (by rw [hM2]; omega) (by rw [h, hlm2])
        rw [← p.s.m] at this; omega
      have s4 := s3.at (w := w4) sd2 (fun i hi => hother _ (hlne i hi))
      have x4 := x3.at2 hr3 (w := w4) sd2 (fun b hb1 _ => hother b (hpos b hb1))
      have d4 : DefsOK B w4 (mk ++ a.defers) := by
        have hd2 : DefsOK B c2.w (mk ++ a.defers) := DefsOK.ext (c := c.loop l L0 w1) hdef x2 s1
        obtain ⟨bs, e1, e2, e3⟩ := hd2
        refine ⟨bs, e1, e2, fun b hb' => ⟨(e3 b hb').1, ?_⟩⟩
        rw [hother b (by rintro rfl; have := (e3 _ hb').2; rw [k2] at this; cases this)]
        exact (e3 b hb').2
      have post : CPost P nt B c st rd.lp rd.wp (q.getD .nm) env { st1 with pd := st1.pd.take rd.lp.length } (exRel (q.getD .nm)) { a with defers := mk ++ a.defers } w4 :=
        ⟨rfl, _, rfl, rfl, s4, x4, p.he.mono x4.cx, p.hz, d4⟩
      subst hw4
      cases q with
      | none => simp only [Option.map_none]; exact post
      | some e => simp only [Option.map_some]; exact exCode_wp e post
  · rw [h1] at hfe; cases hfe
end Go.Proofs.Ytbeocehhclfbiaa.Lite
namespace Go.Proofs.Ytbeocehhclfbiaa.Lite
open Go Go.RowKit

theorem setn_get {lp : List (Option LRec)} {i j : Nat} {r : LRec} (h : (lp.set i none)[j]? = some (some r)) : j ≠ i ∧ lp[j]? = some (some r) := by
  rw [List.getElem?_set] at h
  split at h
  · split at h <;> simp at h
  · rename_i hne; exact ⟨fun e => hne e.symm, h⟩

theorem StRel.setn {P : Program} {c : Cx} {st : St} {lp : List (Option LRec)} (s : StRel P c st lp) (i : Nat) : StRel P c st (lp.set i none) where
  h := s.h
  m := by rw [List.length_set]; exact s.m
  pd := s.pd
  rcd := fun j r hj => s.rcd j r (setn_get hj).2
  all := s.all
  inj := s.inj

theorem Own.setn {c : Cx} {h : Heap} {lp : List (Option LRec)} {i b : Nat} (ho : Own c h (lp.set i none) b) : Own c h lp b := by
  rcases ho with h1 | ⟨j, r, h1, h2⟩
  · exact .inl h1
  · exact .inr ⟨j, r, (setn_get h1).2, h2⟩

theorem Own.split {c : Cx} {h : Heap} {lp : List (Option LRec)} {i b : Nat} (ho : Own c h lp b) : Own c h (lp.set i none) b ∨ c.lm i = b := by
  rcases ho with h1 | ⟨j, r, h1, h2⟩
  · exact .inl (.inl h1)
  · by_cases e : j = i
    · subst e; exact .inr h2
    · exact .inl (.inr ⟨j, r, by rw [List.getElem?_set_ne (Ne.symm e)]; exact h1, h2⟩)

theorem Ext.full {c c' : Cx} {st st' : St} {lp : List (Option LRec)} {wp i : Nat} {r : LRec} (hi : lp[i]? = some (some r)) (hM : i < c.M) (x : Ext c c' st st' (lp.set i none) wp) : Ext c c' st st' lp wp :=
  { x with
    blk := fun b h1 h2 => x.blk b h1 fun h => h2 h.setn
    own := fun b hb => by
      rcases hb.split (i := i) with h | h
      · exact (x.own b h).imp Own.setn id
      · exact .inl (.inr ⟨i, r, hi, by rw [← x.lm i hM]; exact h⟩)
    sx := fun b z hz => by
      rcases x.sx b z hz with h | h | h
      · exact .inl h
      · exact .inr (.inl h.setn)
      · exact .inr (.inr h)
    pdx := fun j hj => x.pdx j (by
      have : j ≠ i := by rintro rfl; rw [hi] at hj; cases hj
      rw [List.getElem?_set_ne this.symm]; exact hj) }

theorem bind_rel {c : Cx} : ∀ (ps : List Nat) (vs : List AV) (us : List Value) (env : Env) (tm : Array Value), EnvRel c env tm → (∀ t ∈ ps, t < tm.size) → vs.length = ps.length → us.length = ps.length → (∀ (j : Nat) y u, vs[j]? = some y → us[j]? = some u → VRel c y u) →
    EnvRel c (bindPs ps vs env) ((ps.zip us).foldl (fun tm (p : Nat × Value) => tm.setIfInBounds p.1 p.2) tm) ∧ ((ps.zip us).foldl (fun tm (p : Nat × Value) => tm.setIfInBounds p.1 p.2) tm).size = tm.size
  | [], vs, us, env, tm, he, _, h1, h2, _ => by
    have : vs = [] := by simpa using h1
    subst this
    exact ⟨by simpa [bindPs] using he, by simp⟩
  | t :: ps, v :: vs, u :: us, env, tm, he, hb, h1, h2, hv => by
    simp only [bindPs, List.zip_cons_cons, List.foldl_cons]
    have hlt : t < tm.size := hb t (by simp)
    have he' : EnvRel c ((t, v) :: env) (tm.setIfInBounds t u) := by
      have := EnvRel.put (a := { tmps := tm, defers := [] }) (env := env) he (hv 0 v u rfl rfl) (some t) (fun t' e => by cases e; exact hlt)
      exact this
    obtain ⟨g1, g2⟩ := bind_rel ps vs us ((t, v) :: env) (tm.setIfInBounds t u) he' (fun t' ht' => by simpa using hb t' (by simp [ht'])) (by simpa using h1) (by simpa using h2) (fun j y w hy hw => hv (j + 1) y w (by simpa using hy) (by simpa using hw))
    exact ⟨g1, by rw [g2]; simp⟩
  | _ :: _, [], _, _, _, _, _, h1, _, _ => by simp at h1
  | _ :: _, _ :: _, [], _, _, _, _, _, h2, _ => by simp at h2

def jumpOf : Ex → Option Ex
  | .nm => none
  | e => some e

theorem roundPost_ex {P : Program} {l : Nat} {R : Ending → World → Prop} {a : Act} {w : World} (e : Ex) {v : Value} {w' : World} (h1 : (Instr.endRound l ((jumpOf e).map exCode)).run P w = .ok v w') (h2 : R (.returned v) w') : roundPost P l R (exRel e) a w := by
  cases e <;> exact ⟨v, w', h1, h2⟩

theorem yld_sound {P : Program} {T : Tbl} {n : Nat} (hcode : CodeOK P T n) {rd : Rd} {c : Cx} {st : St} (s : StRel P c st rd.lp) (hN : c.N = st.h.length) (hwp : rd.wp ≤ st.h.length) {i : Nat} {r : LRec} (hi : rd.lp[i]? = some (some r)) (hpd : st.pd[i]? = some none)
    {args : List AV} (hal : args.length = r.ps.length) {env1 env2 : Env} {st1 st2 : St} (hev1 : evCode T n { rd with lp := rd.lp.set i none } r.asg (bindPs r.ps args r.env) st = some (.nm, env1, st1)) {e : Ex} (hev2 : evCode T n { rd with lp := rd.lp.set i none } r.body env1 st1 = some (e, env2, st2))
    {vs : Array Value} (hz : vs.size = args.length) (ha : ∀ (j : Nat) y v, args[j]? = some y → vs[j]? = some v → VRel c y v) {pd' : List (Option Ex)} (hp1 : pd'.length = st2.pd.length) (hp2 : st2.pd[i]? = some none → pd'[i]? = some (jumpOf e)) (hp3 : ∀ j : Nat, j ≠ i → pd'[j]? = st2.pd[j]?) :
    Goes P c.w (.func (.yield (c.lm i)) #[] #[]) vs (fun v w' => Res P c st { h := gc st.h.length rd.lp.length [] st2.h, pd := pd' } rd.lp rd.wp (.d (.bool (jumpOf e).isNone)) v w') := by
  have hM : i < c.M := by rw [← s.m]; exact (List.getElem?_eq_some_iff.1 hi).1
  obtain ⟨q, k1, k2, k3⟩ := s.rcd i r hi
  rw [hpd] at k1; cases k1
  have hpz : (c.lc i).params.size = r.ps.length := by have := congrArg List.length k3.ps; simpa using this
  have hrun := run_yield (P := P) (args := vs) k2 (by rw [hz, hal]; exact hpz.symm)
  refine .inr ⟨_, _, _, _, _, rfl, hrun, ?_⟩
  refine roundIn_of_wpIn trivial ?_
  have hseti : (rd.lp.set i none)[i]? = some none := by rw [List.getElem?_set_self (List.getElem?_eq_some_iff.1 hi).1]
  obtain ⟨b1, b2⟩ := bind_rel (c := c) r.ps args vs.toList r.env (c.lc i).tmps k3.env k3.psb hal (by simpa [hz] using hal) (fun j y u hy hu => ha j y u hy (by simpa using hu))
  have hfold : ((loopAt (c.lc i) none).params.zip vs).foldl (fun tmps (p : Tmp × Value) => tmps.setIfInBounds p.1 p.2) (loopAt (c.lc i) none).tmps = (r.ps.zip vs.toList).foldl (fun tm (p : Nat × Value) => tm.setIfInBounds p.1 p.2) (c.lc i).tmps := by
    rw [← Array.foldl_toList, Array.toList_zip]
    show List.foldl _ _ (((c.lc i).params.toList).zip vs.toList) = _
    rw [k3.ps]; rfl
  have notOwn : ∀ {cc : Cx} {h : Heap} {ss : St}, StRel P cc ss (rd.lp.set i none) → h = ss.h → i < cc.M → (∃ L, cc.w.heap[cc.lm i]? = some (.loop L)) → ¬ Own cc h (rd.lp.set i none) (cc.lm i) := by
    rintro cc h ss s' rfl hm ⟨L, hL⟩ (h1 | ⟨j, r', h1, h2⟩)
    · exact loop_notOwn s'.h hL h1
    · obtain ⟨hne, _⟩ := setn_get h1
      have hj : j < cc.M := by rw [← s'.m]; exact (List.getElem?_eq_some_iff.1 h1).1
      exact hne (s'.inj j i hj hm h2)
  have pre1 : Pre P (c.lc i).tmps.size c.w.heap.size { rd with lp := rd.lp.set i none } c st (bindPs r.ps args r.env) { tmps := ((loopAt (c.lc i) none).params.zip vs).foldl (fun tmps (p : Tmp × Value) => tmps.setIfInBounds p.1 p.2) (loopAt (c.lc i) none).tmps, defers := [] } (some (c.lm i)) :=
    ⟨s.setn i, hN, hwp, by rw [hfold]; exact b1, by rw [hfold]; exact b2, DefsOK.nil _ _, Nat.le_refl _, fun l₀ h => by cases h; exact ⟨i, hM, rfl⟩⟩
  have w1 := hcode _ _ _ _ _ _ _ hev1 _ _ k3.asg _ _ _ _ pre1
  refine wpIn_mono w1 ?_
  rintro e1 a1 wd1 ⟨rfl, c1, rfl, n1, s1, x1, he1, hz1, hd1⟩
  have hM1 : i < c1.M := by rw [x1.m]; exact hM
  have hlm1 : c1.lm i = c.lm i := x1.lm i hM
  have hlc1 : c1.lc i = c.lc i := x1.lc i hM
  have k4 : c1.w.heap[c.lm i]? = some (.loop (loopAt (c.lc i) none)) := by
    rw [x1.blk _ (Array.getElem?_eq_some_iff.1 k2).1 (notOwn (s.setn i) rfl hM ⟨_, k2⟩)]; exact k2
  have hbr := run_beginRound (P := P) k4 rfl
  refine ⟨_, hbr, ?_⟩
  have sdb : Side c1.w (c1.w.putObj (c.lm i) (.loop { loopAt (c.lc i) none with state := .busy })) := Side.put (fun arr T fr e => by rw [k4] at e; cases e) _ k4
  have hbsame : (c1.w.putObj (c.lm i) (.loop { loopAt (c.lc i) none with state := .busy })).heap[c.lm i]? = some (.loop { loopAt (c.lc i) none with state := .busy }) := World.putObj_heap_same (Array.getElem?_eq_some_iff.1 k4).1
  have hboth : ∀ b, b ≠ c.lm i → (c1.w.putObj (c.lm i) (.loop { loopAt (c.lc i) none with state := .busy })).heap[b]? = c1.w.heap[b]? := fun b hb => World.putObj_heap_other hb
  generalize c1.w.putObj (c.lm i) (.loop { loopAt (c.lc i) none with state := .busy }) = wb at sdb hbsame hboth
  have hnb : ∀ j, j < c1.M → j ≠ i → c1.lm j ≠ c.lm i := fun j hj hne h => hne (s1.inj j i hj hM1 (by rw [hlm1]; exact h))
  have sb : StRel P (c1.at wb) st1 (rd.lp.set i none) := by
    refine ⟨s1.h.at sdb, s1.m, s1.pd, fun j r' hj => ?_, fun j hj => ?_, s1.inj⟩
    · obtain ⟨p, g1, g2, g3⟩ := s1.rcd j r' hj
      have hjm : j < c1.M := by rw [← s1.m]; exact (List.getElem?_eq_some_iff.1 hj).1
      exact ⟨p, g1, by show wb.heap[c1.lm j]? = _; rw [hboth _ (hnb j hjm (setn_get hj).1)]; exact g2, g3.mono (Side.le s1.h sdb)⟩
    · by_cases hji : j = i
      · subst hji; exact ⟨_, by show wb.heap[c1.lm j]? = _; rw [hlm1]; exact hbsame⟩
      · obtain ⟨L, hL⟩ := s1.all j hj
        exact ⟨L, by show wb.heap[c1.lm j]? = _; rw [hboth _ (hnb j hj hji)]; exact hL⟩
  have pre2 : Pre P (c.lc i).tmps.size c.w.heap.size { rd with lp := rd.lp.set i none } (c1.at wb) st1 env1 a1 (some (c.lm i)) :=
    ⟨sb, n1, Nat.le_trans hwp x1.len, he1.mono (Side.le s1.h sdb), hz1, by
      obtain ⟨bs, e1, e2, e3⟩ := hd1
      refine ⟨bs, e1, e2, fun b hb => ⟨(e3 b hb).1, ?_⟩⟩
      show wb.heap[b]? = _
      rw [hboth b (by rintro rfl; have := (e3 _ hb).2; rw [k4] at this; cases this)]; exact (e3 b hb).2, Nat.le_trans x1.size sdb.size, fun l₀ h => by cases h; exact ⟨i, hM1, hlm1⟩⟩
  have w2 := hcode _ _ _ _ _ _ _ hev2 _ _ k3.body _ _ _ _ pre2
  refine wpIn_mono w2 ?_
  rintro e2 a2 wd2 ⟨rfl, c2, rfl, n2, s2, x2, he2, hz2, hd2⟩
  have hM2 : i < c2.M := by rw [x2.m]; exact hM1
  have hlm2 : c2.lm i = c.lm i := (x2.lm i hM1).trans hlm1
  have hlc2 : c2.lc i = c.lc i := (x2.lc i hM1).trans hlc1
  have k5 : c2.w.heap[c.lm i]? = some (.loop { loopAt (c.lc i) none with state := .busy }) := by
    have hno := notOwn sb rfl hM1 ⟨_, by show wb.heap[c1.lm i]? = _; rw [hlm1]; exact hbsame⟩
    have e0 : (c1.at wb).lm i = c.lm i := hlm1
    rw [e0] at hno
    rw [x2.blk _ (Array.getElem?_eq_some_iff.1 hbsame).1 hno]; exact hbsame
  have hend := run_endRound (P := P) ((jumpOf e).map exCode) k5
  refine roundPost_ex e hend ?_
  have sd3 : Side c2.w (c2.w.putObj (c.lm i) (.loop (loopAt (c.lc i) (jumpOf e)))) := Side.put (fun arr T fr e => by rw [k5] at e; cases e) _ k5
  have hsame : (c2.w.putObj (c.lm i) (.loop (loopAt (c.lc i) (jumpOf e)))).heap[c.lm i]? = some (.loop (loopAt (c.lc i) (jumpOf e))) := World.putObj_heap_same (Array.getElem?_eq_some_iff.1 k5).1
  have hoth : ∀ b, b ≠ c.lm i → (c2.w.putObj (c.lm i) (.loop (loopAt (c.lc i) (jumpOf e)))).heap[b]? = c2.w.heap[b]? := fun b hb => World.putObj_heap_other hb
  have hweq : c2.w.putObj (c.lm i) (.loop { { loopAt (c.lc i) none with state := .busy } with state := if ((jumpOf e).map exCode).isNone then .ready else .done, pending := (jumpOf e).map exCode }) = c2.w.putObj (c.lm i) (.loop (loopAt (c.lc i) (jumpOf e))) := by
    cases e <;> rfl
  rw [hweq]
  have hbool : ((jumpOf e).map exCode).isNone = (jumpOf e).isNone := by cases e <;> rfl
  rw [hbool]
  generalize c2.w.putObj (c.lm i) (.loop (loopAt (c.lc i) (jumpOf e))) = w3 at sd3 hsame hoth
  have xa : Ext c c1 st st1 rd.lp rd.wp := x1.full hi hM
  have ownI : ∀ (cc : Cx) (h : Heap), cc.lm i = c.lm i → Own cc h rd.lp (c.lm i) := fun cc h he => .inr ⟨i, r, hi, he⟩
  have xb : Ext c (c1.at wb) st st1 rd.lp rd.wp := xa.at2 s1.h sdb fun b _ hno => hboth b (by rintro rfl; exact hno (ownI c _ rfl))
  have xc : Ext c c2 st st2 rd.lp rd.wp := xb.trans (x2.full hi hM1)
  have xd : Ext c (c2.at w3) st { h := st2.h, pd := pd' } rd.lp rd.wp := by
    have := xc.at2 s2.h sd3 fun b _ hno => hoth b (by rintro rfl; exact hno (ownI c _ rfl))
    exact { this with pdx := fun j hj => (hp3 j (by rintro rfl; rw [hi] at hj; cases hj)).trans (xc.pdx j hj) }
  have s3 : StRel P (c2.at w3) { h := st2.h, pd := pd' } rd.lp := by
    refine ⟨s2.h.at sd3, by show rd.lp.length = c2.M; rw [← s2.m]; simp, by show pd'.length = _; rw [hp1]; exact s2.pd, fun j r' hj => ?_, fun j hj => ?_, s2.inj⟩
    · by_cases hji : j = i
      · subst hji
        rw [hi] at hj; cases hj
        refine ⟨_, hp2 (((x2.pdx j hseti).trans (x1.pdx j hseti)).trans hpd), ?_, ?_⟩
        · show w3.heap[c2.lm j]? = some (.loop (loopAt (c2.lc j) _))
          rw [hlm2, hlc2]; exact hsame
        · show LoopIs P _ r (c2.lc j)
          rw [hlc2]; exact k3.mono xd.cx
      · obtain ⟨p, g1, g2, g3⟩ := s2.rcd j r' (by rw [List.getElem?_set_ne (Ne.symm hji)]; exact hj)
        have hjm : j < c2.M := by rw [← s2.m, List.length_set]; exact (List.getElem?_eq_some_iff.1 hj).1
        refine ⟨p, (hp3 j hji).trans g1, ?_, g3.mono (Side.le s2.h sd3)⟩
        show w3.heap[c2.lm j]? = _
        rw [hoth _ (fun h => hji (s2.inj j i hjm hM2 (by rw [hlm2]; exact h)))]; exact g2
    · by_cases hji : j = i
      · subst hji; exact ⟨_, by show w3.heap[c2.lm j]? = _; rw [hlm2]; exact hsame⟩
      · obtain ⟨L, hL⟩ := s2.all j hj
        exact ⟨L, by show w3.heap[c2.lm j]? = _; rw [hoth _ (fun h => hji (s2.inj j i hj hM2 (by rw [hlm2]; exact h)))]; exact hL⟩
  obtain ⟨c4, g1, g2, g3, g4, _⟩ := gc_sound s hN xd s3 n2 []
  exact ⟨_, rfl, c4, g1, g2, g3, g4, .d (.bool _)⟩
end Go.Proofs.Ytbeocehhclfbiaa.Lite
namespace Go.Proofs.Ytbeocehhclfbiaa.Lite
open Go Go.RowKit

def chkFun (P : Program) (f : Nat) (cf : CFun) : Bool :=
  match P.funcs[f]? with
  | some fn => match fn.body with
    | some b => fn.name != "runtime.NumGoroutine" && fn.ntmps == cf.nt && decide (cf.np ≤ cf.nt) && chkRes P fn.results.toList cf.res && chkCode P cf.nt b cf.body
    | none => false
  | none => false

structure TblOK (P : Program) (T : Tbl) : Prop where
  orc : ∀ f F, T.orc f = some F → Pure P f F
  code : ∀ f cf, T.orc f = none → T.code f = some cf → chkFun P f cf = true

theorem argEnv_rel {c : Cx} : ∀ (vs : List AV) (us : List Value) (i : Nat) (tm : Array Value), (∀ (j : Nat) u, us[j]? = some u → tm[i + j]? = some u) → us.length = vs.length → (∀ (j : Nat) y u, vs[j]? = some y → us[j]? = some u → VRel c y u) → EnvRel c (argEnv i vs) tm
  | [], _, _, _, _, _, _ => fun t x h => by simp [argEnv, look] at h
  | v :: vs, u :: us, i, tm, ht, hl, hv => by
    intro t x hx
    simp only [argEnv, look] at hx
    split at hx
    · rename_i e; subst e
      cases hx
      have h1 := ht 0 u rfl
      simp only [Nat.add_zero] at h1
      obtain ⟨h2, h3⟩ := Array.getElem?_eq_some_iff.1 h1
      refine ⟨h2, ?_⟩
      have : tm.getD i undef = u := by simp [Array.getD, h2, h3]
      rw [this]; exact hv 0 _ _ rfl rfl
    · exact argEnv_rel vs us (i + 1) tm (fun j w hw => by have := ht (j + 1) w (by simpa using hw); rw [← this]; congr 1; omega) (by simpa using hl) (fun j y w hy hw => hv (j + 1) y w (by simpa using hy) (by simpa using hw)) t x hx
  | _ :: _, [], _, _, _, hl, _ => by simp at hl

theorem chkFun_enter {P : Program} {f : Nat} {cf : CFun} (h : chkFun P f cf = true) : ∃ fn b, P.funcs[f]? = some fn ∧ fn.body = some b ∧ fn.ntmps = cf.nt ∧ cf.np ≤ cf.nt ∧ chkRes P fn.results.toList cf.res = true ∧ chkCode P cf.nt b cf.body = true ∧
    ∀ args w, (callFunc f args).run P w = .ok (.enter f args) w := by
  unfold chkFun at h
  split at h
  · rename_i fn hfn
    split at h
    · rename_i b hb
      simp only [Bool.and_eq_true, beq_iff_eq, decide_eq_true_eq, bne_iff_ne, ne_eq] at h
      obtain ⟨⟨⟨⟨h1, h2⟩, h3⟩, h4⟩, h5⟩ := h
      refine ⟨fn, b, hfn, hb, h2, h3, h4, h5, fun args w => ?_⟩
      have e : (program.run P w) = .ok P w := rfl
      simp [callFunc, Sem.run_bind, e, hfn, hb, h1]
    · cases h
  · cases h

theorem fun_sound {P : Program} {T : Tbl} {n : Nat} (hcode : CodeOK P T n) {f : Nat} {cf : CFun} (hck : chkFun P f cf = true) {rd : Rd} {c : Cx} {st : St} (s : StRel P c st rd.lp) (hN : c.N = st.h.length) (hwp : rd.wp ≤ st.h.length) {xs : List AV} (hnp : xs.length = cf.np)
    {e : Ex} {env : Env} {st1 : St} (hev : evCode T n rd cf.body (argEnv 0 xs) st = some (e, env, st1)) (hex : exRel e = .normal ∨ exRel e = .ret) {vs : List AV} (hres : evRes env st1.h cf.res = some vs)
    {args : Array Value} (hz : args.size = xs.length) (ha : ∀ (j : Nat) y v, xs[j]? = some y → args[j]? = some v → VRel c y v) :
    CallsIn Fence.wide 0 P f args c.w (fun e w' => ∃ v, e = .returned v ∧ Res P c st { st1 with h := gc st.h.length rd.lp.length vs st1.h } rd.lp rd.wp (oneOf vs) v w') := by
  obtain ⟨fn, b, h1, h2, h3, h4, h5, h6, _⟩ := chkFun_enter hck
  refine callsIn_of_wp_marks h1 h2 trivial ?_
  have hzt : (args ++ Array.replicate (fn.ntmps - args.size) undef).size = cf.nt := by simp; omega
  have p : Pre P cf.nt c.w.heap.size rd c st (argEnv 0 xs) { tmps := args ++ Array.replicate (fn.ntmps - args.size) undef, defers := [] } none :=
    ⟨s, hN, hwp, argEnv_rel xs args.toList 0 _ (fun j u hu => by
      have hj : j < args.size := by simpa using (List.getElem?_eq_some_iff.1 hu).1
      rw [Nat.zero_add, Array.getElem?_append_left hj]; simpa using hu) (by simpa using hz) (fun j y u hy hu => ha j y u hy (by simpa using hu)), hzt, DefsOK.nil _ _, Nat.le_refl _, fun l₀ h => by cases h⟩
  have hw := hcode _ _ _ _ _ _ _ hev _ _ h6 _ _ _ _ p
  have hw' : b.wpIn Fence.wide 0 P (CPost P cf.nt c.w.heap.size c st rd.lp rd.wp e env st1) { tmps := args ++ Array.replicate (fn.ntmps - args.size) undef, defers := [] } c.w := hw
  refine wpIn_mono hw' ?_
  rintro e' a' w' ⟨rfl, c1, rfl, n1, s1, x1, he1, _, hd1⟩
  have key : LeavesInM Fence.wide 0 P fn a'.tmps (fun e w' => ∃ v, e = .returned v ∧ Res P c st { st1 with h := gc st.h.length rd.lp.length vs st1.h } rd.lp rd.wp (oneOf vs) v w') a'.defers .returning c1.w := by
    obtain ⟨bs, e1, e2, e3⟩ := hd1
    rw [e1]
    refine leaves_marks bs c1.w e2 e3 fun w2 sd hoth => ?_
    have hnl : ∀ i, i < c1.M → w2.heap[c1.lm i]? = c1.w.heap[c1.lm i]? := fun i hi => hoth _ fun hm => by
      obtain ⟨L, hL⟩ := s1.all i hi
      have := (e3 _ hm).2
      rw [hL] at this; cases this
    have s2 := s1.at sd hnl
    have x2 := x1.at2 s1.h sd fun b hb _ => hoth b fun hm => by have := (e3 b hm).1; omega
    obtain ⟨us, g1, g2⟩ := results_sound (fn := fn) (c := c1.at w2) (he1.mono (Side.le s1.h sd)) (h := st1.h) s2.h h5 hres
    obtain ⟨c4, k1, k2, k3, k4, k5⟩ := gc_sound s hN x2 s2 n1 vs
    refine ⟨_, g1, _, rfl, c4, k1, k2, k3, k4, ?_⟩
    exact (g2.mono fun y hy u hu => k5 y hy u hu).one
  rcases hex with h | h <;> rw [h] <;> exact key

theorem rounds_mono {F : Fence} {P : Program} {c : Code} {Q Q' : Exit → Act → World → Prop} (h : ∀ e a w, Q e a w → Q' e a w) : ∀ {m : Nat} {a : Act} {w : World}, Code.roundsIn F 0 P c Q m a w → Code.roundsIn F 0 P c Q' m a w
  | 0, _, _, hr => hr
  | m + 1, a, w, hr => wpIn_mono hr fun e a w he => by
      cases e with
      | normal => exact rounds_mono h he
      | _ => exact h _ _ _ he

theorem jumps_mono {F : Fence} {P : Program} {whole : Code} {Q Q' : Exit → Act → World → Prop} (h : ∀ e a w, Q e a w → Q' e a w) : ∀ {m : Nat} {c : Code} {a : Act} {w : World}, jumpsIn F 0 P whole Q m c a w → jumpsIn F 0 P whole Q' m c a w
  | 0, _, _, _, hr => hr
  | m + 1, c, a, w, hr => wpIn_mono hr fun e a w he => by
      cases e with
      | goto l =>
        simp only [Exit.leaps] at he ⊢
        split
        · rename_i rest hf; rw [hf] at he; exact jumps_mono h he
        · rename_i hf; rw [hf] at he; exact h _ _ _ he
      | _ => exact h _ _ _ he

theorem all_sound {P : Program} {T : Tbl} (hT : TblOK P T) : ∀ n, CodeOK P T n ∧ ScopeOK P T n ∧ LoopOK P T n ∧ CallOK P T n := by
  intro n
  induction n with
  | zero =>
    refine ⟨fun rd cc env st ex env' st' h => ?_, fun rd keep whole cc env st ex env' st' h => ?_, fun rd keep b env st ex env' st' h => ?_, fun rd fv args st x st' h => ?_⟩ <;> simp [evCode, evScope, evCall] at h
  | succ n ih =>
    obtain ⟨hcode, hscope, hloop, hcall⟩ := ih
    have hloop1 : LoopOK P T (n + 1) := by
      intro rd keep b env st ex env' st' hev nt code hk B c a ro p
      rw [evCode] at hev
      rw [roundsIn_succ]
      split at hev
      · rename_i env1 st1 h1
        refine wpIn_mono (hcode _ _ _ _ _ _ _ h1 _ _ hk _ _ _ _ p) ?_
        rintro e a1 w1 ⟨rfl, c1, rfl, n1, s1, x1, he1, hz1, hd1⟩
        obtain ⟨c2, g1, g2, g3⟩ := p.gc n1 s1 x1 he1 hz1 hd1 keep
        have := hloop _ _ _ _ _ _ _ _ hev _ _ hk _ _ _ _ g2
        rw [← g1]
        exact rounds_mono (fun e a w h => CPost.trans g3 h) this
      · rename_i hne
        refine wpIn_mono (hcode _ _ _ _ _ _ _ hev _ _ hk _ _ _ _ p) ?_
        intro e a1 w1 h
        have := h.1
        subst this
        cases ex with
        | nm => exact absurd hev (hne env' st')
        | _ => exact h
    refine ⟨?_, ?_, hloop1, ?_⟩
    · -- code
      intro rd cc env st ex env' st' hev nt code hk B c a ro p
      cases cc with
      | skip =>
        rw [evCode] at hev; cases hev
        unfold chkCode at hk; split at hk <;> first | (cases hk; done) | skip
        all_goals first | (rename_i hq; cases hq; done) | skip
        exact wpIn_skip ⟨rfl, c, rfl, p.N, p.s, .refl _ _ _ _, p.he, p.hz, p.hd⟩
      | label l =>
        rw [evCode] at hev; cases hev
        unfold chkCode at hk; split at hk <;> first | (cases hk; done) | skip
        all_goals first | (rename_i hq; cases hq; done) | skip
        exact wpIn_label ⟨rfl, c, rfl, p.N, p.s, .refl _ _ _ _, p.he, p.hz, p.hd⟩
      | exit id =>
        rw [evCode] at hev; cases hev
        unfold chkCode at hk; split at hk <;> first | (cases hk; done) | skip
        all_goals first | (rename_i hq; cases hq; done) | skip
        rename_i hq; cases hq
        simp only [beq_iff_eq] at hk; subst hk
        exact wpIn_exit ⟨rfl, c, rfl, p.N, p.s, .refl _ _ _ _, p.he, p.hz, p.hd⟩
      | goto l =>
        rw [evCode] at hev; cases hev
        unfold chkCode at hk; split at hk <;> first | (cases hk; done) | skip
        all_goals first | (rename_i hq; cases hq; done) | skip
        rename_i hq; cases hq
        simp only [beq_iff_eq] at hk; subst hk
        exact wpIn_goto ⟨rfl, c, rfl, p.N, p.s, .refl _ _ _ _, p.he, p.hz, p.hd⟩
      | ret =>
        rw [evCode] at hev; cases hev
        unfold chkCode at hk; split at hk <;> first | (cases hk; done) | skip
        all_goals first | (rename_i hq; cases hq; done) | skip
        exact wpIn_ret ⟨rfl, c, rfl, p.N, p.s, .refl _ _ _ _, p.he, p.hz, p.hd⟩
      | seq x y =>
        unfold chkCode at hk; split at hk <;> first | (cases hk; done) | skip
        all_goals first | (rename_i hq; cases hq; done) | skip
        rename_i ca cb xa xb hq; cases hq
        simp only [Bool.and_eq_true] at hk
        rw [evCode] at hev
        refine wpIn_seq ?_
        split at hev
        · rename_i env1 st1 h1
          refine wpIn_mono (hcode _ _ _ _ _ _ _ h1 _ _ hk.1 _ _ _ _ p) ?_
          rintro e a1 w1 ⟨rfl, c1, rfl, n1, s1, x1, he1, hz1, hd1⟩
          have := hcode _ _ _ _ _ _ _ hev _ _ hk.2 _ _ _ _ (p.next n1 s1 x1 he1 hz1 hd1)
          exact wpIn_mono this fun e a w h => CPost.trans x1 h
        · rename_i hne
          refine wpIn_mono (hcode _ _ _ _ _ _ _ hev _ _ hk.1 _ _ _ _ p) ?_
          intro e a1 w1 h
          have := h.1
          subst this
          cases ex with
          | nm => exact absurd hev (hne env' st')
          | _ => exact h
      | cond x ca cb =>
        unfold chkCode at hk; split at hk <;> first | (cases hk; done) | skip
        all_goals first | (rename_i hq; cases hq; done) | skip
        rename_i c0 k1 k2 x0 xa xb hq; cases hq
        simp only [Bool.and_eq_true] at hk
        rw [evCode] at hev
        split at hev
        · rename_i t ht
          have hb := (chkX_sound hk.1.1 p.he ht).inv_bool
          refine wpIn_cond hb ?_
          cases t with
          | true => exact hcode _ _ _ _ _ _ _ hev _ _ hk.1.2 _ _ _ _ p
          | false => exact hcode _ _ _ _ _ _ _ hev _ _ hk.2 _ _ _ _ p
        · cases hev
      | block id cb =>
        unfold chkCode at hk; split at hk <;> first | (cases hk; done) | skip
        all_goals first | (rename_i hq; cases hq; done) | skip
        rename_i id' k1 id'' xb hq; cases hq
        simp only [Bool.and_eq_true, beq_iff_eq] at hk
        obtain ⟨rfl, hk⟩ := hk
        rw [evCode] at hev
        refine wpIn_block ?_
        split at hev
        · rename_i id2 env1 st1 h1
          refine wpIn_mono (hcode _ _ _ _ _ _ _ h1 _ _ hk _ _ _ _ p) ?_
          intro e a1 w1 h
          have := h.1
          subst this
          simp only [exRel, Exit.inBlock]
          split at hev
          · rename_i hid; cases hev
            rw [if_pos hid]
            exact ⟨rfl, h.2⟩
          · rename_i hid; cases hev
            rw [if_neg hid]
            exact h
        · rename_i hne
          refine wpIn_mono (hcode _ _ _ _ _ _ _ hev _ _ hk _ _ _ _ p) ?_
          intro e a1 w1 h
          have := h.1
          subst this
          cases ex with
          | ex id => exact absurd hev (hne id env' st')
          | _ => exact h
      | loop keep cb =>
        unfold chkCode at hk; split at hk <;> first | (cases hk; done) | skip
        all_goals first | (rename_i hq; cases hq; done) | skip
        rename_i k1 kp xb hq; cases hq
        exact wpIn_loop_rounds (n + 1) (hloop1 _ _ _ _ _ _ _ _ hev _ _ hk _ _ _ _ p)
      | scope keep cb =>
        unfold chkCode at hk; split at hk <;> first | (cases hk; done) | skip
        all_goals first | (rename_i hq; cases hq; done) | skip
        rename_i k1 kp xb hq; cases hq
        rw [evCode] at hev
        exact wpIn_scope_jumps n (hscope _ _ _ _ _ _ _ _ _ hev _ _ _ hk hk _ _ _ _ p)
      | range x ps ca cb =>
        unfold chkCode at hk; split at hk <;> first | (cases hk; done) | skip
        all_goals first | (rename_i hq; cases hq; done) | skip
        rename_i f0 ps0 as0 b0 x0 ps1 xa xb hq; cases hq
        simp only [Bool.and_eq_true, beq_iff_eq, List.all_eq_true, decide_eq_true_eq] at hk
        obtain ⟨⟨⟨⟨k1, rfl⟩, k3⟩, k4⟩, k5⟩ := hk
        rw [evCode] at hev
        split at hev
        · rename_i g caps hx
          split at hev
          · rename_i v st1 hc
            split at hev
            · rename_i hlow
              split at hev
              · rename_i hq2; cases hev
                exact range_sound hcall p k1 k3 k4 k5 hx hc hlow hq2
              · rename_i e hq2; cases hev
                exact range_sound hcall p k1 k3 k4 k5 hx hc hlow hq2
              · cases hev
            · cases hev
          · cases hev
        · cases hev
      | reg cops =>
        unfold chkCode at hk; split at hk <;> first | (cases hk; done) | skip
        all_goals first | (rename_i hq; cases hq; done) | skip
        rename_i id ops cops' hq; cases hq
        rw [evCode] at hev
        split at hev
        · rename_i env1 st1 h1
          cases hev
          exact reg_sound hcall hk h1 p.s p.N p.wp p.he p.hz ro _ fun c' a' g1 g2 g3 g4 g5 g6 => ⟨rfl, c', rfl, g2, g1, g3, g4, g5, by rw [g6]; exact p.hd.ext g3 p.s⟩
        · cases hev
      | dreg pre suf =>
        unfold chkCode at hk; split at hk <;> first | (cases hk; done) | skip
        all_goals first | (rename_i hq; cases hq; done) | skip
        rename_i id ops pre' suf' hq; cases hq
        simp only [Bool.and_eq_true] at hk
        rw [evCode] at hev
        split at hev
        · rename_i env1 h1 hpre
          split at hev
          · rename_i env2 st2 hsuf
            cases hev
            exact dreg_sound (hE := st.h) hcall hk.1.1.1 hk.1.1.2 hk.1.2 hk.2 rfl (fun _ _ h => h) hpre hsuf p.s p.N p.wp p.he p.hz ro _ fun c' a' g1 g2 g3 g4 g5 g6 => ⟨rfl, c', rfl, g2, g1, g3, g4, g5, by rw [g6]; exact p.hd.ext g3 p.s⟩
          · cases hev
        · cases hev
      | sreg er pre suf =>
        unfold chkCode at hk; split at hk <;> first | (cases hk; done) | skip
        all_goals first | (rename_i hq; cases hq; done) | skip
        rename_i id ops er' pre' suf' hq; cases hq
        simp only [Bool.and_eq_true] at hk
        rw [evCode] at hev
        split at hev
        · rename_i env1 h1 hpre
          split at hev
          · rename_i env2 st2 hsuf
            cases hev
            exact dreg_sound (hE := eraseB env er st.h) hcall hk.1.1.1 hk.1.1.2 hk.1.2 hk.2 (eraseB_length _ _ _) (eraseB_sub _ _ _) hpre hsuf p.s p.N p.wp p.he p.hz ro _ fun c' a' g1 g2 g3 g4 g5 g6 => ⟨rfl, c', rfl, g2, g1, g3, g4, g5, by rw [g6]; exact p.hd.ext g3 p.s⟩
          · cases hev
        · cases hev
    · -- scopes
      intro rd keep whole cc env st ex env' st' hev nt wcode code hwk hk B c a ro p
      rw [evScope] at hev
      show code.wpIn _ _ _ _ _ _
      split at hev
      · rename_i l env1 st1 h1
        refine wpIn_mono (hcode _ _ _ _ _ _ _ h1 _ _ hk _ _ _ _ p) ?_
        rintro e a1 w1 ⟨rfl, c1, rfl, n1, s1, x1, he1, hz1, hd1⟩
        have hfl := findL_sound hwk l
        split at hev
        · rename_i rest hr
          rw [hr] at hfl
          obtain ⟨rcode, g1, g2⟩ := hfl
          simp only [exRel, Exit.leaps, g1]
          obtain ⟨c2, k1, k2, k3⟩ := p.gc n1 s1 x1 he1 hz1 hd1 keep
          have := hscope _ _ _ _ _ _ _ _ _ hev _ _ _ hwk g2 _ _ _ _ k2
          rw [← k1]
          exact jumps_mono (fun e a w h => CPost.trans k3 h) this
        · rename_i hr
          rw [hr] at hfl
          simp only [exRel, Exit.leaps, hfl]
          cases hev
          exact ⟨rfl, c1, rfl, n1, s1, x1, he1, hz1, hd1⟩
      · rename_i hne
        refine wpIn_mono (hcode _ _ _ _ _ _ _ hev _ _ hk _ _ _ _ p) ?_
        intro e a1 w1 h
        have := h.1
        subst this
        cases ex with
        | gt l => exact absurd hev (hne l env' st')
        | _ => exact h
    · -- calls
      intro rd fv args st x st' hev c fvv vs s hN hwp hv hz ha
      cases fv
      case fn f caps =>
        simp only [evCall] at hev
        obtain ⟨arr, rfl, har, hcr⟩ := hv.inv_fn
        split at hev
        · rename_i F hF
          have hp := hT.orc f F hF
          split at hev
          · rename_i dvs hd
            split at hev
            · rename_i rs hrs
              split at hev
              · rename_i ht
                cases hev
                have : arr = #[] := by simpa using har
                subst this
                refine .inl ⟨f, #[], rfl, hp.enter, ?_⟩
                rw [Array.append_empty]
                exact orc_call hp s hN hd hrs ht hz ha
              · cases hev
            · cases hev
          · cases hev
        · rename_i hno
          split at hev
          · rename_i cf hcf
            have hck := hT.code f cf hno hcf
            obtain ⟨_, _, _, _, _, _, _, _, hent⟩ := chkFun_enter hck
            split at hev
            · rename_i hlen
              split at hev
              · rename_i e env1 st1 h1
                have hxz : (vs ++ arr).size = (args ++ caps).length := by simp [hz, har]
                have hxr : ∀ (j : Nat) y v, (args ++ caps)[j]? = some y → (vs ++ arr)[j]? = some v → VRel c y v := by
                  intro j y v hy hv'
                  rcases Nat.lt_or_ge j args.length with h | h
                  · rw [List.getElem?_append_left h] at hy
                    rw [Array.getElem?_append_left (by omega)] at hv'
                    exact ha j y v hy hv'
                  · rw [List.getElem?_append_right h] at hy
                    rw [Array.getElem?_append_right (by omega), hz] at hv'
                    exact hcr _ y v hy hv'
                split at hev
                · split at hev
                  · rename_i xs hres
                    cases hev
                    exact .inl ⟨f, arr, rfl, hent, fun_sound hcode hck s hN hwp hlen h1 (.inl rfl) hres hxz hxr⟩
                  · cases hev
                · split at hev
                  · rename_i xs hres
                    cases hev
                    exact .inl ⟨f, arr, rfl, hent, fun_sound hcode hck s hN hwp hlen h1 (.inr rfl) hres hxz hxr⟩
                  · cases hev
                · cases hev
              · cases hev
            · cases hev
          · cases hev
      case yld i =>
        simp only [evCall] at hev
        obtain ⟨rfl, hM⟩ := hv.inv_yld
        split at hev
        · rename_i r hi hpd
          split at hev
          · rename_i hal
            split at hev
            · rename_i env1 st1 h1
              split at hev
              · rename_i env2 st2 h2
                cases hev
                exact yld_sound hcode s hN hwp hi hpd hal h1 h2 hz ha rfl (fun h => h) (fun _ _ => rfl)
              · rename_i e env2 st2 hne h2
                cases hev
                have hj : jumpOf e = some e := by cases e <;> first | rfl | exact absurd rfl hne
                have := yld_sound hcode s hN hwp hi hpd hal h1 h2 hz ha (pd' := st2.pd.set i (some e)) (by simp) (fun h => by rw [hj]; exact List.getElem?_set_self (List.getElem?_eq_some_iff.1 h).1) (fun j hj => List.getElem?_set_ne (Ne.symm hj))
                rw [hj] at this
                exact this
              · cases hev
            · cases hev
          · cases hev
        · cases hev
      all_goals (simp [evCall] at hev)
end Go.Proofs.Ytbeocehhclfbiaa.Lite
namespace Go.Proofs.Ytbeocehhclfbiaa.Lite
open Go Go.RowKit

def CLe (f g : Caller) : Prop := ∀ fv args st r, f fv args st = some r → g fv args st = some r

theorem evOp_mono {f g : Caller} (h : CLe f g) {wp : Nat} {o : COp} {env : Env} {st : St} {r : Env × St} (he : evOp f wp o env st = some r) : evOp g wp o env st = some r := by
  unfold evOp at he ⊢
  split at he
  · rename_i hw
    try simp only [hw]
    split at he
    · split at he
      · rename_i fv vs h1 h2
        try simp only [h1, h2]
        split at he
        · rename_i v st' h3
          rw [h _ _ _ _ h3]; exact he
        · cases he
      · cases he
    · rename_i k hk
      split at he
      · rename_i v h2 h3
        exact he
      · cases he
  · rename_i hw; (try simp only [hw]); exact he
  · cases he

theorem evOps_mono {f g : Caller} (h : CLe f g) {wp : Nat} : ∀ {os : List COp} {env : Env} {st : St} {r : Env × St}, evOps f wp os env st = some r → evOps g wp os env st = some r
  | [], _, _, _, he => he
  | o :: os, env, st, r, he => by
    simp only [evOps] at he ⊢
    split at he
    · rename_i env' st' h1
      rw [evOp_mono h h1]
      exact evOps_mono h he
    · cases he

theorem preStep_mono {f g : Caller} (h : CLe f g) {h0 : Heap} {wp p : Nat} {o : COp} {env : Env} {hp : Heap} {pd : List (Option Ex)} {r : AV × Heap} (he : preStep f h0 wp p o env hp pd = some r) : preStep g h0 wp p o env hp pd = some r := by
  unfold preStep at he ⊢
  split at he
  · rename_i hw
    try simp only [hw]
    split at he
    · rename_i f' a' hk
      try simp only [hk]
      split at he
      · rename_i fv vs h1 h2
        try simp only [h1, h2]
        split at he
        · rename_i hl
          try rw [if_pos hl]
          split at he
          · rename_i v st' h3
            rw [h _ _ _ _ h3]; exact he
          · cases he
        · cases he
      · cases he
    · rename_i n x y hk
      try simp only [hk]
      exact he
    · rename_i k hk1 hk2
      exact he
  · rename_i hw; (try simp only [hw]); exact he
  · cases he

theorem evPre_mono {f g : Caller} (h : CLe f g) {h0 : Heap} {wp : Nat} : ∀ {os : List COp} {p : Nat} {env : Env} {hp : Heap} {pd : List (Option Ex)} {r : Env × Heap}, evPre f h0 wp p os env hp pd = some r → evPre g h0 wp p os env hp pd = some r
  | [], _, _, _, _, _, he => he
  | o :: os, p, env, hp, pd, r, he => by
    simp only [evPre] at he ⊢
    split at he
    · rename_i v h' h1
      rw [preStep_mono h h1]
      exact evPre_mono h he
    · cases he

structure Mono (T : Tbl) (n : Nat) : Prop where
  code : ∀ rd c env st r, evCode T n rd c env st = some r → evCode T (n + 1) rd c env st = some r
  scope : ∀ rd keep whole c env st r, evScope T n rd keep whole c env st = some r → evScope T (n + 1) rd keep whole c env st = some r
  call : ∀ rd, CLe (evCall T n rd) (evCall T (n + 1) rd)

theorem mono (T : Tbl) : ∀ n, Mono T n := by
  intro n
  induction n with
  | zero => exact ⟨fun rd c env st r h => by simp [evCode] at h, fun rd k w c env st r h => by simp [evScope] at h, fun rd fv args st r h => by simp [evCall] at h⟩
  | succ n ih =>
    refine ⟨fun rd c env st r h => ?_, fun rd keep whole c env st r h => ?_, fun rd fv args st r h => ?_⟩
    · cases c with
      | skip => exact h
      | label l => exact h
      | exit l => exact h
      | goto l => exact h
      | ret => exact h
      | seq a b =>
        rw [evCode] at h ⊢
        split at h
        · rename_i env' st' h1
          rw [ih.code _ _ _ _ _ h1]
          exact ih.code _ _ _ _ _ h
        · rename_i hne
          rw [ih.code _ _ _ _ _ h]
          obtain ⟨e, env', st'⟩ := r
          cases e with
          | nm => exact absurd h (hne env' st')
          | _ => rfl
      | cond x a b =>
        rw [evCode] at h ⊢
        split at h
        · rename_i t ht
          try simp only [ht]
          cases t
          · exact ih.code _ _ _ _ _ h
          · exact ih.code _ _ _ _ _ h
        · cases h
      | block id b =>
        rw [evCode] at h ⊢
        split at h
        · rename_i id' env' st' h1
          rw [ih.code _ _ _ _ _ h1]; exact h
        · rename_i hne
          rw [ih.code _ _ _ _ _ h]
          obtain ⟨e, env', st'⟩ := r
          cases e with
          | ex id' => exact absurd h (hne id' env' st')
          | _ => rfl
      | loop keep b =>
        rw [evCode] at h ⊢
        split at h
        · rename_i env' st' h1
          rw [ih.code _ _ _ _ _ h1]
          exact ih.code _ _ _ _ _ h
        · rename_i hne
          rw [ih.code _ _ _ _ _ h]
          obtain ⟨e, env', st'⟩ := r
          cases e with
          | nm => exact absurd h (hne env' st')
          | _ => rfl
      | scope keep b =>
        rw [evCode] at h ⊢
        exact ih.scope _ _ _ _ _ _ _ h
      | range f ps asg b =>
        rw [evCode] at h ⊢
        split at h
        · rename_i g caps hx
          try simp only [hx]
          split at h
          · rename_i v st' h1
            rw [ih.call _ _ _ _ _ h1]; exact h
          · cases h
        · cases h
      | reg ops =>
        rw [evCode] at h ⊢
        split at h
        · rename_i env' st' h1
          rw [evOps_mono (ih.call rd) h1]; exact h
        · cases h
      | dreg pre suf =>
        rw [evCode] at h ⊢
        split at h
        · rename_i env' h' h1
          rw [evPre_mono (ih.call _) h1]
          simp only
          split at h
          · rename_i env2 st2 h2
            rw [evOps_mono (ih.call rd) h2]; exact h
          · cases h
        · cases h
      | sreg er pre suf =>
        rw [evCode] at h ⊢
        split at h
        · rename_i env' h' h1
          rw [evPre_mono (ih.call _) h1]
          simp only
          split at h
          · rename_i env2 st2 h2
            rw [evOps_mono (ih.call rd) h2]; exact h
          · cases h
        · cases h
    · rw [evScope] at h ⊢
      split at h
      · rename_i l env' st' h1
        rw [ih.code _ _ _ _ _ h1]
        simp only
        split at h
        · rename_i rest hr
          try simp only [hr]
          exact ih.scope _ _ _ _ _ _ _ h
        · rename_i hr; (try simp only [hr]); exact h
      · rename_i hne
        rw [ih.code _ _ _ _ _ h]
        obtain ⟨e, env', st'⟩ := r
        cases e with
        | gt l => exact absurd h (hne l env' st')
        | _ => rfl
    · cases fv
      case fn f caps =>
        simp only [evCall] at h ⊢
        split at h
        · exact h
        · split at h
          · rename_i cf hcf
            split at h
            · rename_i hl
              try rw [if_pos hl]
              split at h
              · rename_i e env st' h1
                rw [ih.code _ _ _ _ _ h1]; exact h
              · cases h
            · cases h
          · cases h
      case yld i =>
        simp only [evCall] at h ⊢
        split at h
        · rename_i r' hi hpd
          split at h
          · rename_i hl
            try rw [if_pos hl]
            split at h
            · rename_i env st' h1
              rw [ih.code _ _ _ _ _ h1]
              simp only
              split at h
              · rename_i env2 st2 h2
                rw [ih.code _ _ _ _ _ h2]; exact h
              · rename_i e env2 st2 hne h2
                rw [ih.code _ _ _ _ _ h2]
                cases e with
                | nm => exact absurd rfl hne
                | _ => exact h
              · cases h
            · cases h
          · cases h
        · cases h
      all_goals (simp [evCall] at h)

theorem code_mono {T : Tbl} {n m : Nat} (h : n ≤ m) {rd : Rd} {c : CCode} {env : Env} {st : St} {r : Ex × Env × St} (he : evCode T n rd c env st = some r) : evCode T m rd c env st = some r := by
  induction h with
  | refl => exact he
  | step _ ih => exact (mono T _).code _ _ _ _ _ ih
theorem scope_mono {T : Tbl} {n m : Nat} (h : n ≤ m) {rd : Rd} {keep : List Nat} {whole c : CCode} {env : Env} {st : St} {r : Ex × Env × St} (he : evScope T n rd keep whole c env st = some r) : evScope T m rd keep whole c env st = some r := by
  induction h with
  | refl => exact he
  | step _ ih => exact (mono T _).scope _ _ _ _ _ _ _ ih
theorem call_mono {T : Tbl} {n m : Nat} (h : n ≤ m) {rd : Rd} : CLe (evCall T n rd) (evCall T m rd) := by
  induction h with
  | refl => exact fun _ _ _ _ he => he
  | step _ ih => exact fun _ _ _ _ he => (mono T _).call _ _ _ _ _ (ih _ _ _ _ he)
end Go.Proofs.Ytbeocehhclfbiaa.Lite
namespace Go.Proofs.Ytbeocehhclfbiaa.Lite
open Go Go.RowKit

def W (T : Tbl) (rd : Rd) (c : CCode) (env : Env) (st : St) (Q : Ex → Env → St → Prop) : Prop := ∃ n e env' st', evCode T n rd c env st = some (e, env', st') ∧ Q e env' st'
def WS (T : Tbl) (rd : Rd) (keep : List Nat) (whole c : CCode) (env : Env) (st : St) (Q : Ex → Env → St → Prop) : Prop := ∃ n e env' st', evScope T n rd keep whole c env st = some (e, env', st') ∧ Q e env' st'
def WC (T : Tbl) (rd : Rd) (fv : AV) (args : List AV) (st : St) (Q : AV → St → Prop) : Prop := ∃ n v st', evCall T n rd fv args st = some (v, st') ∧ Q v st'
def WO (T : Tbl) (rd : Rd) (ops : List COp) (env : Env) (st : St) (Q : Env → St → Prop) : Prop := ∃ n env' st', evOps (evCall T n rd) rd.wp ops env st = some (env', st') ∧ Q env' st'
def WP (T : Tbl) (rd : Rd) (h0 : Heap) (wp p : Nat) (ops : List COp) (env : Env) (h : Heap) (pd : List (Option Ex)) (Q : Env → Heap → Prop) : Prop := ∃ n env' h', evPre (evCall T n rd) h0 wp p ops env h pd = some (env', h') ∧ Q env' h'

section
variable {T : Tbl} {rd : Rd} {env : Env} {st : St} {Q : Ex → Env → St → Prop}

theorem W.mono {c : CCode} {Q' : Ex → Env → St → Prop} (h : W T rd c env st Q) (hq : ∀ e env st, Q e env st → Q' e env st) : W T rd c env st Q' := by
  obtain ⟨n, e, env', st', h1, h2⟩ := h; exact ⟨n, e, env', st', h1, hq _ _ _ h2⟩
theorem WC.mono {fv : AV} {args : List AV} {Q Q' : AV → St → Prop} (h : WC T rd fv args st Q) (hq : ∀ v st, Q v st → Q' v st) : WC T rd fv args st Q' := by
  obtain ⟨n, v, st', h1, h2⟩ := h; exact ⟨n, v, st', h1, hq _ _ h2⟩
theorem WO.mono {ops : List COp} {Q Q' : Env → St → Prop} (h : WO T rd ops env st Q) (hq : ∀ v st, Q v st → Q' v st) : WO T rd ops env st Q' := by
  obtain ⟨n, v, st', h1, h2⟩ := h; exact ⟨n, v, st', h1, hq _ _ h2⟩
theorem WS.mono {keep : List Nat} {w c : CCode} {Q' : Ex → Env → St → Prop} (h : WS T rd keep w c env st Q) (hq : ∀ e env st, Q e env st → Q' e env st) : WS T rd keep w c env st Q' := by
  obtain ⟨n, e, env', st', h1, h2⟩ := h; exact ⟨n, e, env', st', h1, hq _ _ _ h2⟩

theorem W_skip : W T rd .skip env st Q ↔ Q .nm env st :=
  ⟨fun ⟨n, e, env', st', h, q⟩ => by cases n <;> simp only [evCode, reduceCtorEq] at h; cases h; exact q, fun q => ⟨1, _, _, _, rfl, q⟩⟩
theorem W_label {l : Nat} : W T rd (.label l) env st Q ↔ Q .nm env st :=
  ⟨fun ⟨n, e, env', st', h, q⟩ => by cases n <;> simp only [evCode, reduceCtorEq] at h; cases h; exact q, fun q => ⟨1, _, _, _, rfl, q⟩⟩
theorem W_exit {l : Nat} : W T rd (.exit l) env st Q ↔ Q (.ex l) env st :=
  ⟨fun ⟨n, e, env', st', h, q⟩ => by cases n <;> simp only [evCode, reduceCtorEq] at h; cases h; exact q, fun q => ⟨1, _, _, _, rfl, q⟩⟩
theorem W_goto {l : Nat} : W T rd (.goto l) env st Q ↔ Q (.gt l) env st :=
  ⟨fun ⟨n, e, env', st', h, q⟩ => by cases n <;> simp only [evCode, reduceCtorEq] at h; cases h; exact q, fun q => ⟨1, _, _, _, rfl, q⟩⟩
theorem W_ret : W T rd .ret env st Q ↔ Q .rt env st :=
  ⟨fun ⟨n, e, env', st', h, q⟩ => by cases n <;> simp only [evCode, reduceCtorEq] at h; cases h; exact q, fun q => ⟨1, _, _, _, rfl, q⟩⟩

/-- what comes behind, if it is come to -/
def onNm (K : Env → St → Prop) (Q : Ex → Env → St → Prop) : Ex → Env → St → Prop
  | .nm, env, st => K env st
  | e, env, st => Q e env st
def onEx (id : Nat) (Q : Ex → Env → St → Prop) : Ex → Env → St → Prop
  | .ex id', env, st => if id' = id then Q .nm env st else Q (.ex id') env st
  | e, env, st => Q e env st

theorem W_seq {a b : CCode} : W T rd (.seq a b) env st Q ↔ W T rd a env st (onNm (fun env st => W T rd b env st Q) Q) := by
  constructor
  · rintro ⟨n, e, env', st', h, q⟩
    cases n with
    | zero => simp [evCode] at h
    | succ n =>
      rw [evCode] at h
      split at h
      · rename_i env1 st1 h1
        exact ⟨n, _, _, _, h1, n, _, _, _, h, q⟩
      · rename_i hne
        refine ⟨n, _, _, _, h, ?_⟩
        cases e with
        | nm => exact absurd h (hne env' st')
        | _ => exact q
  · rintro ⟨n, e, env1, st1, h1, q⟩
    cases e with
    | nm =>
      obtain ⟨m, e, env', st', h2, q⟩ := q
      refine ⟨max n m + 1, e, env', st', ?_, q⟩
      rw [evCode, code_mono (Nat.le_max_left n m) h1]
      exact code_mono (Nat.le_max_right n m) h2
    | _ => exact ⟨n + 1, _, _, _, by rw [evCode, h1], q⟩

def WB (x : Option AV) (A B : Prop) : Prop := match x with
  | some (.d (.bool t)) => if t = true then A else B
  | _ => False

theorem W_cond {x : X} {a b : CCode} : W T rd (.cond x a b) env st Q ↔ WB (evX env x) (W T rd a env st Q) (W T rd b env st Q) := by
  constructor
  · rintro ⟨n, e, env', st', h, q⟩
    cases n with
    | zero => simp [evCode] at h
    | succ n =>
      rw [evCode] at h
      split at h
      · rename_i t ht
        simp only [WB, ht]
        cases t
        · exact ⟨n, _, _, _, h, q⟩
        · exact ⟨n, _, _, _, h, q⟩
      · cases h
  · intro h
    unfold WB at h
    split at h
    · rename_i t ht
      cases t
      · obtain ⟨n, e, env', st', h1, q⟩ := h
        exact ⟨n + 1, e, env', st', by rw [evCode, ht]; exact h1, q⟩
      · obtain ⟨n, e, env', st', h1, q⟩ := h
        exact ⟨n + 1, e, env', st', by rw [evCode, ht]; exact h1, q⟩
    · exact h.elim

theorem W_block {id : Nat} {b : CCode} : W T rd (.block id b) env st Q ↔ W T rd b env st (onEx id Q) := by
  constructor
  · rintro ⟨n, e, env', st', h, q⟩
    cases n with
    | zero => simp [evCode] at h
    | succ n =>
      rw [evCode] at h
      split at h
      · rename_i id' env1 st1 h1
        refine ⟨n, _, _, _, h1, ?_⟩
        simp only [onEx]
        split at h
        · rename_i e; cases h; rw [if_pos e]; exact q
        · rename_i e; cases h; rw [if_neg e]; exact q
      · rename_i hne
        refine ⟨n, _, _, _, h, ?_⟩
        cases e with
        | ex id' => exact absurd h (hne id' env' st')
        | _ => exact q
  · rintro ⟨n, e, env1, st1, h1, q⟩
    cases e with
    | ex id' =>
      simp only [onEx] at q
      split at q
      · rename_i e; exact ⟨n + 1, _, _, _, by rw [evCode, h1]; simp only [if_pos e], q⟩
      · rename_i e; exact ⟨n + 1, _, _, _, by rw [evCode, h1]; simp only [if_neg e], q⟩
    | _ => exact ⟨n + 1, _, _, _, by rw [evCode, h1], q⟩

theorem W_loop {keep : List Nat} {b : CCode} : W T rd (.loop keep b) env st Q ↔
    W T rd b env st (onNm (fun env' st' => W T rd (.loop keep b) (restrict keep env') { st' with h := gc st.h.length rd.lp.length ((restrict keep env').map (·.2)) st'.h } Q) Q) := by
  constructor
  · rintro ⟨n, e, env', st', h, q⟩
    cases n with
    | zero => simp [evCode] at h
    | succ n =>
      rw [evCode] at h
      split at h
      · rename_i env1 st1 h1
        exact ⟨n, _, _, _, h1, n, _, _, _, h, q⟩
      · rename_i hne
        refine ⟨n, _, _, _, h, ?_⟩
        cases e with
        | nm => exact absurd h (hne env' st')
        | _ => exact q
  · rintro ⟨n, e, env1, st1, h1, q⟩
    cases e with
    | nm =>
      obtain ⟨m, e, env', st', h2, q⟩ := q
      refine ⟨max n m + 1, e, env', st', ?_, q⟩
      rw [evCode, code_mono (Nat.le_max_left n m) h1]
      exact code_mono (Nat.le_max_right n m) h2
    | _ => exact ⟨n + 1, _, _, _, by rw [evCode, h1], q⟩

theorem W_scope {keep : List Nat} {b : CCode} : W T rd (.scope keep b) env st Q ↔ WS T rd keep b b env st Q := by
  constructor
  · rintro ⟨n, e, env', st', h, q⟩
    cases n with
    | zero => simp [evCode] at h
    | succ n => rw [evCode] at h; exact ⟨n, _, _, _, h, q⟩
  · rintro ⟨n, e, env', st', h, q⟩
    exact ⟨n + 1, _, _, _, by rw [evCode]; exact h, q⟩

def onGt (T : Tbl) (rd : Rd) (keep : List Nat) (whole : CCode) (st : St) (Q : Ex → Env → St → Prop) : Ex → Env → St → Prop
  | .gt l, env', st' => match findL whole l with
    | some rest => WS T rd keep whole rest (restrict keep env') { st' with h := gc st.h.length rd.lp.length ((restrict keep env').map (·.2)) st'.h } Q
    | none => Q (.gt l) env' st'
  | e, env, st => Q e env st

theorem WS_iff {keep : List Nat} {whole c : CCode} : WS T rd keep whole c env st Q ↔ W T rd c env st (onGt T rd keep whole st Q) := by
  constructor
  · rintro ⟨n, e, env', st', h, q⟩
    cases n with
    | zero => simp [evScope] at h
    | succ n =>
      rw [evScope] at h
      split at h
      · rename_i l env1 st1 h1
        refine ⟨n, _, _, _, h1, ?_⟩
        simp only [onGt]
        split at h
        · rename_i rest hr; simp only [hr]; exact ⟨n, _, _, _, h, q⟩
        · rename_i hr; cases h; simp only [hr]; exact q
      · rename_i hne
        refine ⟨n, _, _, _, h, ?_⟩
        cases e with
        | gt l => exact absurd h (hne l env' st')
        | _ => exact q
  · rintro ⟨n, e, env1, st1, h1, q⟩
    cases e with
    | gt l =>
      simp only [onGt] at q
      split at q
      · rename_i rest hr
        obtain ⟨m, e, env', st', h2, q⟩ := q
        refine ⟨max n m + 1, e, env', st', ?_, q⟩
        rw [evScope, code_mono (Nat.le_max_left n m) h1]
        simp only [hr]
        exact scope_mono (Nat.le_max_right n m) h2
      · rename_i hr
        exact ⟨n + 1, _, _, _, by rw [evScope, h1]; simp only [hr], q⟩
    | _ => exact ⟨n + 1, _, _, _, by rw [evScope, h1], q⟩

def WR (T : Tbl) (rd : Rd) (x : Option AV) (ps : List Nat) (asg b : CCode) (env : Env) (st : St) (Q : Ex → Env → St → Prop) : Prop := match x with
  | some (.fn g caps) => WC T { rd with lp := rd.lp ++ [some { ps, asg, body := b, env }] } (.fn g caps) [.yld rd.lp.length] { st with pd := st.pd ++ [none] } (fun _ st' =>
      st'.h.all (lowObj st'.h.length rd.lp.length) = true ∧ match st'.pd[rd.lp.length]? with
        | some q => Q (q.getD .nm) env { st' with pd := st'.pd.take rd.lp.length }
        | none => False)
  | _ => False

theorem W_range {f : X} {ps : List Nat} {asg b : CCode} : W T rd (.range f ps asg b) env st Q ↔ WR T rd (evX env f) ps asg b env st Q := by
  constructor
  · rintro ⟨n, e, env', st', h, q⟩
    cases n with
    | zero => simp [evCode] at h
    | succ n =>
      rw [evCode] at h
      split at h
      · rename_i g caps hx
        split at h
        · rename_i v st1 h1
          simp only [WR, hx]
          refine ⟨n, _, _, h1, ?_⟩
          split at h
          · rename_i hl
            refine ⟨hl, ?_⟩
            split at h
            · rename_i hq; cases h; simp only [hq]; exact q
            · rename_i hq; cases h; simp only [hq]; exact q
            · cases h
          · cases h
        · cases h
      · cases h
  · intro h
    unfold WR at h
    split at h
    · rename_i g caps hx
      obtain ⟨n, v, st1, h1, hl, h2⟩ := h
      split at h2
      · rename_i q hq
        refine ⟨n + 1, _, _, _, ?_, h2⟩
        rw [evCode, hx]
        simp only [h1, if_pos hl, hq]
        cases q <;> rfl
      · exact h2.elim
    · exact h.elim

theorem W_reg {ops : List COp} : W T rd (.reg ops) env st Q ↔ WO T rd ops env st (fun env st => Q .nm env st) := by
  constructor
  · rintro ⟨n, e, env', st', h, q⟩
    cases n with
    | zero => simp [evCode] at h
    | succ n =>
      rw [evCode] at h
      split at h
      · rename_i env1 st1 h1; cases h; exact ⟨n, _, _, h1, q⟩
      · cases h
  · rintro ⟨n, env', st', h, q⟩
    exact ⟨n + 1, _, _, _, by rw [evCode, h], q⟩

theorem W_dreg {pre suf : List COp} : W T rd (.dreg pre suf) env st Q ↔
    WP T { lp := rd.lp.map fun _ => none, wp := st.h.length } st.h rd.wp 0 pre env st.h st.pd (fun env' h' => WO T rd suf env' { st with h := padH h' (st.h.length + pre.length) } (fun env st => Q .nm env st)) := by
  constructor
  · rintro ⟨n, e, env', st', h, q⟩
    cases n with
    | zero => simp [evCode] at h
    | succ n =>
      rw [evCode] at h
      split at h
      · rename_i env1 h1' h1
        split at h
        · rename_i env2 st2 h2
          cases h; exact ⟨n, _, _, h1, n, _, _, h2, q⟩
        · cases h
      · cases h
  · rintro ⟨n, env1, h1', h1, m, env2, st2, h2, q⟩
    refine ⟨max n m + 1, _, _, _, ?_, q⟩
    rw [evCode, evPre_mono (call_mono (Nat.le_max_left n m)) h1]
    simp only
    rw [evOps_mono (call_mono (Nat.le_max_right n m)) h2]

theorem W_sreg {er : List Nat} {pre suf : List COp} : W T rd (.sreg er pre suf) env st Q ↔
    WP T { lp := rd.lp.map fun _ => none, wp := st.h.length } (eraseB env er st.h) rd.wp 0 pre env st.h st.pd (fun env' h' => WO T rd suf env' { st with h := padH h' (st.h.length + pre.length) } (fun env st => Q .nm env st)) := by
  constructor
  · rintro ⟨n, e, env', st', h, q⟩
    cases n with
    | zero => simp [evCode] at h
    | succ n =>
      rw [evCode] at h
      split at h
      · rename_i env1 h1' h1
        split at h
        · rename_i env2 st2 h2
          cases h; exact ⟨n, _, _, h1, n, _, _, h2, q⟩
        · cases h
      · cases h
  · rintro ⟨n, env1, h1', h1, m, env2, st2, h2, q⟩
    refine ⟨max n m + 1, _, _, _, ?_, q⟩
    rw [evCode, evPre_mono (call_mono (Nat.le_max_left n m)) h1]
    simp only
    rw [evOps_mono (call_mono (Nat.le_max_right n m)) h2]

/-! ### Operations -/
def WK (T : Tbl) (rd : Rd) (k : K) (env : Env) (st : St) (R : AV → St → Prop) : Prop := match k with
  | .call f args => (match evX env f, evXs env args with
    | some fv, some vs => WC T rd fv vs st R
    | _, _ => False)
  | k => match stepK env st.h st.h st.h.length rd.wp k with
    | some (v, h) => R v { st with h := h }
    | none => False

def WG (g : Option Bool) (A : Prop) (B : Prop) : Prop := match g with
  | some b => if b = true then A else B
  | none => False

theorem WO_nil {R : Env → St → Prop} : WO T rd [] env st R ↔ R env st :=
  ⟨fun ⟨n, env', st', h, q⟩ => by simp only [evOps, Option.some.injEq, Prod.mk.injEq] at h; obtain ⟨rfl, rfl⟩ := h; exact q, fun q => ⟨0, _, _, rfl, q⟩⟩

theorem WO_cons {o : COp} {os : List COp} {R : Env → St → Prop} : WO T rd (o :: os) env st R ↔
    WG (wants env o.g) (WK T rd o.k env st (fun v st' => WO T rd os (putE env o.dst v) st' R)) (WO T rd os (putE env o.dst (.tup [])) st R) := by
  constructor
  · rintro ⟨n, env', st', h, q⟩
    simp only [evOps] at h
    split at h
    · rename_i env1 st1 h1
      unfold evOp at h1
      cases hw : wants env o.g with
      | none => rw [hw] at h1; cases h1
      | some b =>
        rw [hw] at h1
        cases b with
        | false => cases h1; exact ⟨n, _, _, h, q⟩
        | true =>
          show WK T rd o.k env st _
          cases hk : o.k
          case call f args =>
            rw [hk] at h1
            simp only at h1
            cases h2 : evX env f with
            | none => rw [h2] at h1; cases h1
            | some fv =>
              cases h3 : evXs env args with
              | none => rw [h2, h3] at h1; cases h1
              | some vs =>
                rw [h2, h3] at h1
                simp only at h1
                simp only [WK, h2, h3]
                split at h1
                · rename_i v st2 h4
                  cases h1
                  exact ⟨n, _, _, h4, n, _, _, h, q⟩
                · cases h1
          all_goals
            rw [hk] at h1
            simp only at h1
            unfold WK
            simp only
            split at h1
            · rename_i v h2 h3
              cases h1
              try simp only [h3]
              exact ⟨n, _, _, h, q⟩
            · cases h1
    · cases h
  · intro h
    unfold WG at h
    split at h
    · rename_i b hb
      cases b with
      | false =>
        simp only [Bool.false_eq_true, if_false] at h
        obtain ⟨n, env', st', h1, q⟩ := h
        exact ⟨n, env', st', by simp only [evOps, evOp, hb]; exact h1, q⟩
      | true =>
        simp only [if_true] at h
        cases hk : o.k
        case call f args =>
          rw [hk] at h
          simp only [WK] at h
          split at h
          · rename_i fv vs h2 h3
            obtain ⟨n, v, st1, h4, m, env', st', h5, q⟩ := h
            refine ⟨max n m, env', st', ?_, q⟩
            simp only [evOps, evOp, hb, hk, h2, h3, call_mono (Nat.le_max_left n m) _ _ _ _ h4]
            exact evOps_mono (call_mono (Nat.le_max_right n m)) h5
          · exact h.elim
        all_goals
          rw [hk] at h
          unfold WK at h
          simp only at h
          split at h
          · rename_i v h2 h3
            obtain ⟨n, env', st', h1, q⟩ := h
            refine ⟨n, env', st', ?_, q⟩
            simp only [evOps, evOp, hb, hk, h3]
            exact h1
          · exact h.elim
    · exact h.elim

def WPK (T : Tbl) (rd : Rd) (h0 : Heap) (wp p : Nat) (k : K) (env : Env) (h : Heap) (pd : List (Option Ex)) (R : AV → Heap → Prop) : Prop := match k with
  | .call f args => (match evX env f, evXs env args with
    | some fv, some vs => (fv :: vs).all (AV.lows h0.length pd.length) = true ∧ WC T rd fv vs { h := h0.map hideT, pd := pd } (fun v st' => st'.h.length = h0.length ∧ R v h)
    | _, _ => False)
  | .st n x y => match preSt env h0 h (h0.length + p) wp n x y with
    | some (v, h) => R v h
    | none => False
  | k => match stepK env h0 h (h0.length + p) wp k with
    | some (v, h) => R v h
    | none => False

theorem WP_nil {h0 h : Heap} {wp p : Nat} {pd : List (Option Ex)} {R : Env → Heap → Prop} : WP T rd h0 wp p [] env h pd R ↔ R env h :=
  ⟨fun ⟨n, env', st', h, q⟩ => by simp only [evPre, Option.some.injEq, Prod.mk.injEq] at h; obtain ⟨rfl, rfl⟩ := h; exact q, fun q => ⟨0, _, _, rfl, q⟩⟩

theorem WP_cons {h0 h : Heap} {wp p : Nat} {pd : List (Option Ex)} {o : COp} {os : List COp} {R : Env → Heap → Prop} : WP T rd h0 wp p (o :: os) env h pd R ↔
    WG (wants env o.g) (WPK T rd h0 wp p o.k env h pd (fun v h' => WP T rd h0 wp (p + 1) os (putE env o.dst v) h' pd R)) (WP T rd h0 wp (p + 1) os (putE env o.dst (.tup [])) h pd R) := by
  constructor
  · rintro ⟨n, env', h', he, q⟩
    simp only [evPre] at he
    split at he
    · rename_i v h1 hs
      unfold preStep at hs
      cases hw : wants env o.g with
      | none => rw [hw] at hs; cases hs
      | some b =>
        rw [hw] at hs
        cases b with
        | false => cases hs; exact ⟨n, _, _, he, q⟩
        | true =>
          simp only [WG, if_true]
          cases hk : o.k
          case call f args =>
            rw [hk] at hs
            simp only at hs
            cases h2 : evX env f with
            | none => rw [h2] at hs; cases hs
            | some fv =>
              cases h3 : evXs env args with
              | none => rw [h2, h3] at hs; cases hs
              | some vs =>
                rw [h2, h3] at hs
                simp only at hs
                simp only [WPK, h2, h3]
                split at hs
                · rename_i hl
                  split at hs
                  · rename_i v' st2 h4
                    split at hs
                    · rename_i hn
                      cases hs
                      exact ⟨hl, n, _, _, h4, hn, n, _, _, he, q⟩
                    · cases hs
                  · cases hs
                · cases hs
          all_goals
            rw [hk] at hs
            simp only at hs
            unfold WPK
            simp only [hs]
            exact ⟨n, _, _, he, q⟩
    · cases he
  · intro hh
    unfold WG at hh
    split at hh
    · rename_i b hb
      cases b with
      | false =>
        simp only [Bool.false_eq_true, if_false] at hh
        obtain ⟨n, env', h', h1, q⟩ := hh
        exact ⟨n, env', h', by simp only [evPre, preStep, hb]; exact h1, q⟩
      | true =>
        simp only [if_true] at hh
        cases hk : o.k
        case call f args =>
          rw [hk] at hh
          simp only [WPK] at hh
          split at hh
          · rename_i fv vs h2 h3
            obtain ⟨hl, n, v, st1, h4, hn, m, env', h', h5, q⟩ := hh
            refine ⟨max n m, env', h', ?_, q⟩
            simp only [evPre, preStep, hb, hk, h2, h3, call_mono (Nat.le_max_left n m) _ _ _ _ h4, if_pos hl, if_pos hn]
            exact evPre_mono (call_mono (Nat.le_max_right n m)) h5
          · exact hh.elim
        all_goals
          rw [hk] at hh
          unfold WPK at hh
          simp only at hh
          split at hh
          · rename_i v h2 h3
            obtain ⟨n, env', h', h1, q⟩ := hh
            refine ⟨n, env', h', ?_, q⟩
            simp only [evPre, preStep, hb, hk, h3]
            exact h1
          · exact hh.elim
    · exact hh.elim
end

/-! ### Calls -/
section
variable {T : Tbl} {rd : Rd} {st : St} {R : AV → St → Prop}

def WCd (T : Tbl) (rd : Rd) (f : Nat) (caps args : List AV) (st : St) (R : AV → St → Prop) (cf : CFun) : Prop :=
  (args ++ caps).length = cf.np ∧ W T rd cf.body (argEnv 0 (args ++ caps)) st (fun e env st' => (match e with | .nm | .rt => True | _ => False) ∧
    match evRes env st'.h cf.res with
    | some vs => R (oneOf vs) { st' with h := gc st.h.length rd.lp.length vs st'.h }
    | none => False)

/-- A call whose code is carried out. -/
theorem WC_code {f : Nat} {caps args : List AV} {cf : CFun} (ho : T.orc f = none) (hc : T.code f = some cf) : WC T rd (.fn f caps) args st R ↔ WCd T rd f caps args st R cf := by
  constructor
  · rintro ⟨n, v, st', h, q⟩
    cases n with
    | zero => simp [evCall] at h
    | succ n =>
      simp only [evCall, ho, hc] at h
      split at h
      · rename_i hl
        split at h
        · rename_i e env st1 h1
          refine ⟨hl, n, e, env, st1, h1, ?_⟩
          split at h
          · split at h
            · rename_i vs hv; cases h; exact ⟨trivial, by simp only [hv]; exact q⟩
            · cases h
          · split at h
            · rename_i vs hv; cases h; exact ⟨trivial, by simp only [hv]; exact q⟩
            · cases h
          · cases h
        · cases h
      · cases h
  · rintro ⟨hl, n, e, env, st1, h1, he, hq⟩
    split at hq
    · rename_i vs hv
      refine ⟨n + 1, _, _, ?_, hq⟩
      simp only [evCall, ho, hc, if_pos hl, h1]
      cases e <;> first | exact he.elim | simp only [hv]
    · exact hq.elim

/-- A call of a function known by its contract. -/
theorem WC_orc {f : Nat} {F : List DV → Option (List DV)} {args : List AV} (ho : T.orc f = some F) {dvs rs : List DV} (hd : toDVs st.h args = some dvs) (hF : F dvs = some rs) (ht : (!args.any AV.tied || rs.all DV.flat) = true)
    (q : R (oneOf (rs.map DV.av)) st) : WC T rd (.fn f []) args st R :=
  ⟨1, _, _, by simp only [evCall, ho, hd, hF, if_pos ht], q⟩

theorem WC_yld {i : Nat} {args : List AV} {r : LRec} (hi : rd.lp[i]? = some (some r)) (hp : st.pd[i]? = some none) (hl : args.length = r.ps.length)
    (h : W T { rd with lp := rd.lp.set i none } r.asg (bindPs r.ps args r.env) st (fun e env st1 => e = .nm ∧ W T { rd with lp := rd.lp.set i none } r.body env st1 (fun e _ st2 =>
      match e with
      | .nm => R (.d (.bool true)) { st2 with h := gc st.h.length rd.lp.length [] st2.h }
      | e => R (.d (.bool false)) { h := gc st.h.length rd.lp.length [] st2.h, pd := st2.pd.set i (some e) }))) : WC T rd (.yld i) args st R := by
  obtain ⟨n, e, env, st1, h1, rfl, m, e2, env2, st2, h2, q⟩ := h
  have h1' := code_mono (Nat.le_max_left n m) h1
  have h2' := code_mono (Nat.le_max_right n m) h2
  cases e2 with
  | nm => exact ⟨max n m + 1, _, _, by simp only [evCall, hi, hp, if_pos hl, h1', h2'], q⟩
  | ex id => exact ⟨max n m + 1, _, _, by simp only [evCall, hi, hp, if_pos hl, h1', h2'], q⟩
  | gt l => exact ⟨max n m + 1, _, _, by simp only [evCall, hi, hp, if_pos hl, h1', h2'], q⟩
  | rt => exact ⟨max n m + 1, _, _, by simp only [evCall, hi, hp, if_pos hl, h1', h2'], q⟩
end

/-! ### A contract -/
def outs (h : Heap) : AV → Option (List DV)
  | .tup xs => if xs.length = 1 then none else toDVs h xs
  | x => (toDV h x).map fun d => [d]

theorem pure_of {P : Program} {T : Tbl} (hT : TblOK P T) {f : Nat} {cf : CFun} (ho : T.orc f = none) (hc : T.code f = some cf) {F : List DV → Option (List DV)}
    (h : ∀ dvs rs, F dvs = some rs → WC T ⟨[], 0⟩ (.fn f []) (dvs.map DV.av) ⟨[], []⟩ (fun x st' => outs st'.h x = some rs)) : Pure P f F := by
  obtain ⟨_, _, _, _, _, _, _, _, hent⟩ := chkFun_enter (hT.code f cf ho hc)
  refine ⟨hent, fun S w args dvs rs hF hz ha hS => ?_⟩
  obtain ⟨n, x, st', hev, hout⟩ := h dvs rs hF
  let c : Cx := ⟨0, 0, S, fun _ => .no, fun _ => 0, fun _ => ⟨.ready, none, 0, #[], #[], .skip, .skip, 0⟩, w⟩
  have hs : StRel P c ⟨[], []⟩ [] := by
    refine ⟨⟨fun l cs h => ?_, fun t e n h => ?_, fun l es h => ?_, fun l l' o o' b h => ?_, hS⟩, rfl, rfl, fun i r h => by simp at h, fun i hi => absurd hi (Nat.not_lt_zero _), fun i j hi => absurd hi (Nat.not_lt_zero _)⟩ <;> simp [getO] at h
  have hno : ∀ b, ¬ Own c ([] : Heap) [] b := by
    rintro b (⟨l, o, h, _⟩ | ⟨i, r, h, _⟩)
    · simp [getO] at h
    · simp at h
  have hgo := (all_sound hT n).2.2.2 _ _ _ _ _ _ hev c (.func (.func f) #[] #[]) args hs rfl (Nat.zero_le _) (.fn (by simp) (fun j x v hx => by simp at hx)) (by simpa using hz) (fun j y v hy hv => by
    rw [List.getElem?_map] at hy
    cases hq : dvs[j]? with
    | none => rw [hq] at hy; cases hy
    | some d => rw [hq] at hy; cases hy; exact DVRel.av (c := c) (ha j d v hq hv))
  rcases hgo with ⟨g, arr, h1, _, h3⟩ | ⟨_, _, _, _, _, h1, _⟩
  · cases h1
    rw [Array.append_empty] at h3
    refine h3.mono ?_
    rintro e w' ⟨v, rfl, c', rfl, n1, s1, x1, hv⟩
    refine ⟨v, fun b o => c'.S b o ∨ (OwnH c' st'.h b ∧ ∃ u, c'.w.cell? ⟨b, o, none⟩ = some u), rfl, ?_, ?_⟩
    · refine ⟨fun b o h => .inl (x1.keeps.sub b o h), fun b o h => ?_, fun b hb => x1.blk b hb (hno b), x1.size, x1.os, x1.tape, x1.output, fun b o h => ?_⟩
      · rcases h with h | ⟨h, _⟩
        · rcases x1.sx b o h with h | h | h
          · exact .inl h
          · exact absurd h (hno b)
          · exact .inr h
        · rcases x1.own b (.inl h) with h | h
          · exact absurd h (hno b)
          · exact .inr h
      · rcases h with h | ⟨_, h⟩
        · exact s1.h.stb b o h
        · exact h
    · have gen : ∀ {y : AV} {u : Value} {d : DV}, VRel c' y u → toDV st'.h y = some d → DVRel (fun b o => c'.S b o ∨ (OwnH c' st'.h b ∧ ∃ u, c'.w.cell? ⟨b, o, none⟩ = some u)) c'.w d u := fun hy hd =>
        (toDV_gen s1.h (fun b o h => .inl h) (fun b o u h1 h2 => .inr ⟨h1, u, h2⟩) hy hd).1
      unfold outs at hout
      split at hout
      · rename_i xs
        split at hout
        · cases hout
        · rename_i hl
          obtain ⟨g1, g2⟩ := toDVs_get hout
          obtain ⟨arr, rfl, hz', hr⟩ := hv.inv_tup
          refine .inr ⟨by rw [← g1]; exact hl, arr, rfl, by rw [hz', g1], fun j d u hd hu => ?_⟩
          obtain ⟨y, hy, hyd⟩ := g2 j d hd
          exact gen (hr j y u hy hu) hyd
      · obtain ⟨d, hd, rfl⟩ := map_some_inv hout
        exact .inl ⟨d, rfl, gen hv hd⟩
  · cases h1
end Go.Proofs.Ytbeocehhclfbiaa.Lite
namespace Go.Proofs.Ytbeocehhclfbiaa.Lite
open Go Go.RowKit

inductive Fr where
  | code (c : CCode)
  | blk (id : Nat)

section
variable {T : Tbl} {rd : Rd} {env : Env} {st : St} {Q : Ex → Env → St → Prop}

def contF (T : Tbl) (rd : Rd) : List Fr → (Ex → Env → St → Prop) → Ex → Env → St → Prop
  | [], Q => Q
  | .code c :: fs, Q => onNm (fun env st => W T rd c env st (contF T rd fs Q)) (contF T rd fs Q)
  | .blk id :: fs, Q => onEx id (contF T rd fs Q)

/-- what is yet to be carried out -/
def WL (T : Tbl) (rd : Rd) (fs : List Fr) (env : Env) (st : St) (Q : Ex → Env → St → Prop) : Prop := contF T rd fs Q .nm env st
/-- a jump on its way -/
def WJ (T : Tbl) (rd : Rd) (e : Ex) (fs : List Fr) (env : Env) (st : St) (Q : Ex → Env → St → Prop) : Prop := contF T rd fs Q e env st
def WLO (T : Tbl) (rd : Rd) (os : List COp) (fs : List Fr) (env : Env) (st : St) (Q : Ex → Env → St → Prop) : Prop := WO T rd os env st (fun env st => contF T rd fs Q .nm env st)
def WLV (T : Tbl) (rd : Rd) (g : Option Bool) (r : Option (AV × Heap)) (dst : Option Nat) (os : List COp) (fs : List Fr) (env : Env) (pd : List (Option Ex)) (st : St) (Q : Ex → Env → St → Prop) : Prop :=
  WG g (match r with | some (v, h) => WLO T rd os fs (putE env dst v) ⟨h, pd⟩ Q | none => False) (WLO T rd os fs (putE env dst (.tup [])) st Q)
def WLC (T : Tbl) (rd : Rd) (g : Option Bool) (fv : Option AV) (args : Option (List AV)) (dst : Option Nat) (os : List COp) (fs : List Fr) (env : Env) (st : St) (Q : Ex → Env → St → Prop) : Prop :=
  WG g (match fv, args with | some fv, some vs => WC T rd fv vs st (fun v st' => WLO T rd os fs (putE env dst v) st' Q) | _, _ => False) (WLO T rd os fs (putE env dst (.tup [])) st Q)
def WLB (T : Tbl) (rd : Rd) (x : Option AV) (a b : CCode) (fs : List Fr) (env : Env) (st : St) (Q : Ex → Env → St → Prop) : Prop :=
  WB x (WL T rd (.code a :: fs) env st Q) (WL T rd (.code b :: fs) env st Q)

theorem WL_of {c : CCode} : W T rd c env st Q ↔ WL T rd [.code c] env st Q := Iff.rfl
theorem WL_nil : WL T rd [] env st Q ↔ Q .nm env st := Iff.rfl
theorem WL_blk {id : Nat} {fs : List Fr} : WL T rd (.blk id :: fs) env st Q ↔ WL T rd fs env st Q := Iff.rfl
theorem WL_skip {fs : List Fr} : WL T rd (.code .skip :: fs) env st Q ↔ WL T rd fs env st Q := W_skip
theorem WL_label {l : Nat} {fs : List Fr} : WL T rd (.code (.label l) :: fs) env st Q ↔ WL T rd fs env st Q := W_label
theorem WL_exit {l : Nat} {fs : List Fr} : WL T rd (.code (.exit l) :: fs) env st Q ↔ WJ T rd (.ex l) fs env st Q := W_exit
theorem WL_goto {l : Nat} {fs : List Fr} : WL T rd (.code (.goto l) :: fs) env st Q ↔ WJ T rd (.gt l) fs env st Q := W_goto
theorem WL_ret {fs : List Fr} : WL T rd (.code .ret :: fs) env st Q ↔ WJ T rd .rt fs env st Q := W_ret
theorem WL_seq {a b : CCode} {fs : List Fr} : WL T rd (.code (.seq a b) :: fs) env st Q ↔ WL T rd (.code a :: .code b :: fs) env st Q := W_seq
theorem WL_block {id : Nat} {b : CCode} {fs : List Fr} : WL T rd (.code (.block id b) :: fs) env st Q ↔ WL T rd (.code b :: .blk id :: fs) env st Q := W_block
theorem WL_cond {x : X} {a b : CCode} {fs : List Fr} : WL T rd (.code (.cond x a b) :: fs) env st Q ↔ WLB T rd (evX env x) a b fs env st Q := W_cond
theorem WL_reg {os : List COp} {fs : List Fr} : WL T rd (.code (.reg os) :: fs) env st Q ↔ WLO T rd os fs env st Q := W_reg

theorem WJ_nil {e : Ex} : WJ T rd e [] env st Q ↔ Q e env st := Iff.rfl
theorem WJ_ex {l : Nat} {c : CCode} {fs : List Fr} : WJ T rd (.ex l) (.code c :: fs) env st Q ↔ WJ T rd (.ex l) fs env st Q := Iff.rfl
theorem WJ_gt {l : Nat} {c : CCode} {fs : List Fr} : WJ T rd (.gt l) (.code c :: fs) env st Q ↔ WJ T rd (.gt l) fs env st Q := Iff.rfl
theorem WJ_rt {c : CCode} {fs : List Fr} : WJ T rd .rt (.code c :: fs) env st Q ↔ WJ T rd .rt fs env st Q := Iff.rfl
theorem WJ_exb {l id : Nat} {fs : List Fr} : WJ T rd (.ex l) (.blk id :: fs) env st Q ↔ if l = id then WL T rd fs env st Q else WJ T rd (.ex l) fs env st Q := Iff.rfl
theorem WJ_gtb {l id : Nat} {fs : List Fr} : WJ T rd (.gt l) (.blk id :: fs) env st Q ↔ WJ T rd (.gt l) fs env st Q := Iff.rfl
theorem WJ_rtb {id : Nat} {fs : List Fr} : WJ T rd .rt (.blk id :: fs) env st Q ↔ WJ T rd .rt fs env st Q := Iff.rfl

theorem WLO_nil {fs : List Fr} : WLO T rd [] fs env st Q ↔ WL T rd fs env st Q := WO_nil

def K.isCall : K → Bool
  | .call _ _ => true
  | _ => false
theorem WLO_step {dst : Option Nat} {k : K} {g : Option (Nat × Bool)} {os : List COp} {fs : List Fr} {h : Heap} {pd : List (Option Ex)} (hk : k.isCall = false) : WLO T rd (⟨dst, k, g⟩ :: os) fs env ⟨h, pd⟩ Q ↔
    WLV T rd (wants env g) (stepK env h h h.length rd.wp k) dst os fs env pd ⟨h, pd⟩ Q := by
  unfold WLO WLV
  rw [WO_cons]
  cases k <;> first | exact Iff.rfl | cases hk
section
variable {dst : Option Nat} {g : Option (Nat × Bool)} {os : List COp} {fs : List Fr} {h : Heap} {pd : List (Option Ex)}
theorem WO_mv {a0} : WLO T rd (⟨dst, .mv a0, g⟩ :: os) fs env ⟨h, pd⟩ Q ↔ WLV T rd (wants env g) (stepK env h h h.length rd.wp (.mv a0)) dst os fs env pd ⟨h, pd⟩ Q := WLO_step rfl
theorem WO_pick {a0} {a1} {a2} : WLO T rd (⟨dst, .pick a0 a1 a2, g⟩ :: os) fs env ⟨h, pd⟩ Q ↔ WLV T rd (wants env g) (stepK env h h h.length rd.wp (.pick a0 a1 a2)) dst os fs env pd ⟨h, pd⟩ Q := WLO_step rfl
theorem WO_new {a0} : WLO T rd (⟨dst, .new a0, g⟩ :: os) fs env ⟨h, pd⟩ Q ↔ WLV T rd (wants env g) (stepK env h h h.length rd.wp (.new a0)) dst os fs env pd ⟨h, pd⟩ Q := WLO_step rfl
theorem WO_box {a0} : WLO T rd (⟨dst, .box a0, g⟩ :: os) fs env ⟨h, pd⟩ Q ↔ WLV T rd (wants env g) (stepK env h h h.length rd.wp (.box a0)) dst os fs env pd ⟨h, pd⟩ Q := WLO_step rfl
theorem WO_ld {a0} : WLO T rd (⟨dst, .ld a0, g⟩ :: os) fs env ⟨h, pd⟩ Q ↔ WLV T rd (wants env g) (stepK env h h h.length rd.wp (.ld a0)) dst os fs env pd ⟨h, pd⟩ Q := WLO_step rfl
theorem WO_ldn {a0} {a1} : WLO T rd (⟨dst, .ldn a0 a1, g⟩ :: os) fs env ⟨h, pd⟩ Q ↔ WLV T rd (wants env g) (stepK env h h h.length rd.wp (.ldn a0 a1)) dst os fs env pd ⟨h, pd⟩ Q := WLO_step rfl
theorem WO_st {a0} {a1} {a2} : WLO T rd (⟨dst, .st a0 a1 a2, g⟩ :: os) fs env ⟨h, pd⟩ Q ↔ WLV T rd (wants env g) (stepK env h h h.length rd.wp (.st a0 a1 a2)) dst os fs env pd ⟨h, pd⟩ Q := WLO_step rfl
theorem WO_off {a0} {a1} : WLO T rd (⟨dst, .off a0 a1, g⟩ :: os) fs env ⟨h, pd⟩ Q ↔ WLV T rd (wants env g) (stepK env h h h.length rd.wp (.off a0 a1)) dst os fs env pd ⟨h, pd⟩ Q := WLO_step rfl
theorem WO_ixa {a0} {a1} {a2} {a3} : WLO T rd (⟨dst, .ixa a0 a1 a2 a3, g⟩ :: os) fs env ⟨h, pd⟩ Q ↔ WLV T rd (wants env g) (stepK env h h h.length rd.wp (.ixa a0 a1 a2 a3)) dst os fs env pd ⟨h, pd⟩ Q := WLO_step rfl
theorem WO_ixs {a0} {a1} {a2} : WLO T rd (⟨dst, .ixs a0 a1 a2, g⟩ :: os) fs env ⟨h, pd⟩ Q ↔ WLV T rd (wants env g) (stepK env h h h.length rd.wp (.ixs a0 a1 a2)) dst os fs env pd ⟨h, pd⟩ Q := WLO_step rfl
theorem WO_fld {a0} {a1} : WLO T rd (⟨dst, .fld a0 a1, g⟩ :: os) fs env ⟨h, pd⟩ Q ↔ WLV T rd (wants env g) (stepK env h h h.length rd.wp (.fld a0 a1)) dst os fs env pd ⟨h, pd⟩ Q := WLO_step rfl
theorem WO_fldn {a0} {a1} {a2} : WLO T rd (⟨dst, .fldn a0 a1 a2, g⟩ :: os) fs env ⟨h, pd⟩ Q ↔ WLV T rd (wants env g) (stepK env h h h.length rd.wp (.fldn a0 a1 a2)) dst os fs env pd ⟨h, pd⟩ Q := WLO_step rfl
theorem WO_ixv {a0} {a1} {a2} : WLO T rd (⟨dst, .ixv a0 a1 a2, g⟩ :: os) fs env ⟨h, pd⟩ Q ↔ WLV T rd (wants env g) (stepK env h h h.length rd.wp (.ixv a0 a1 a2)) dst os fs env pd ⟨h, pd⟩ Q := WLO_step rfl
theorem WO_ixvn {a0} {a1} {a2} {a3} : WLO T rd (⟨dst, .ixvn a0 a1 a2 a3, g⟩ :: os) fs env ⟨h, pd⟩ Q ↔ WLV T rd (wants env g) (stepK env h h h.length rd.wp (.ixvn a0 a1 a2 a3)) dst os fs env pd ⟨h, pd⟩ Q := WLO_step rfl
theorem WO_ixb {a0} {a1} : WLO T rd (⟨dst, .ixb a0 a1, g⟩ :: os) fs env ⟨h, pd⟩ Q ↔ WLV T rd (wants env g) (stepK env h h h.length rd.wp (.ixb a0 a1)) dst os fs env pd ⟨h, pd⟩ Q := WLO_step rfl
theorem WO_bin {a0} {a1} {a2} : WLO T rd (⟨dst, .bin a0 a1 a2, g⟩ :: os) fs env ⟨h, pd⟩ Q ↔ WLV T rd (wants env g) (stepK env h h h.length rd.wp (.bin a0 a1 a2)) dst os fs env pd ⟨h, pd⟩ Q := WLO_step rfl
theorem WO_eqb {a0} {a1} {a2} : WLO T rd (⟨dst, .eqb a0 a1 a2, g⟩ :: os) fs env ⟨h, pd⟩ Q ↔ WLV T rd (wants env g) (stepK env h h h.length rd.wp (.eqb a0 a1 a2)) dst os fs env pd ⟨h, pd⟩ Q := WLO_step rfl
theorem WO_isn {a0} {a1} {a2} : WLO T rd (⟨dst, .isn a0 a1 a2, g⟩ :: os) fs env ⟨h, pd⟩ Q ↔ WLV T rd (wants env g) (stepK env h h h.length rd.wp (.isn a0 a1 a2)) dst os fs env pd ⟨h, pd⟩ Q := WLO_step rfl
theorem WO_eqs {a0} {a1} {a2} {a3} : WLO T rd (⟨dst, .eqs a0 a1 a2 a3, g⟩ :: os) fs env ⟨h, pd⟩ Q ↔ WLV T rd (wants env g) (stepK env h h h.length rd.wp (.eqs a0 a1 a2 a3)) dst os fs env pd ⟨h, pd⟩ Q := WLO_step rfl
theorem WO_not {a0} : WLO T rd (⟨dst, .not a0, g⟩ :: os) fs env ⟨h, pd⟩ Q ↔ WLV T rd (wants env g) (stepK env h h h.length rd.wp (.not a0)) dst os fs env pd ⟨h, pd⟩ Q := WLO_step rfl
theorem WO_conv {a0} {a1} : WLO T rd (⟨dst, .conv a0 a1, g⟩ :: os) fs env ⟨h, pd⟩ Q ↔ WLV T rd (wants env g) (stepK env h h h.length rd.wp (.conv a0 a1)) dst os fs env pd ⟨h, pd⟩ Q := WLO_step rfl
theorem WO_mkf {a0} {a1} : WLO T rd (⟨dst, .mkf a0 a1, g⟩ :: os) fs env ⟨h, pd⟩ Q ↔ WLV T rd (wants env g) (stepK env h h h.length rd.wp (.mkf a0 a1)) dst os fs env pd ⟨h, pd⟩ Q := WLO_step rfl
theorem WO_bld {a0} {a1} : WLO T rd (⟨dst, .bld a0 a1, g⟩ :: os) fs env ⟨h, pd⟩ Q ↔ WLV T rd (wants env g) (stepK env h h h.length rd.wp (.bld a0 a1)) dst os fs env pd ⟨h, pd⟩ Q := WLO_step rfl
theorem WO_bls {a0} {a1} {a2} {a3} : WLO T rd (⟨dst, .bls a0 a1 a2 a3, g⟩ :: os) fs env ⟨h, pd⟩ Q ↔ WLV T rd (wants env g) (stepK env h h h.length rd.wp (.bls a0 a1 a2 a3)) dst os fs env pd ⟨h, pd⟩ Q := WLO_step rfl
theorem WO_sla {a0} {a1} {a2} {a3} {a4} : WLO T rd (⟨dst, .sla a0 a1 a2 a3 a4, g⟩ :: os) fs env ⟨h, pd⟩ Q ↔ WLV T rd (wants env g) (stepK env h h h.length rd.wp (.sla a0 a1 a2 a3 a4)) dst os fs env pd ⟨h, pd⟩ Q := WLO_step rfl
theorem WO_sls {a0} {a1} {a2} {a3} : WLO T rd (⟨dst, .sls a0 a1 a2 a3, g⟩ :: os) fs env ⟨h, pd⟩ Q ↔ WLV T rd (wants env g) (stepK env h h h.length rd.wp (.sls a0 a1 a2 a3)) dst os fs env pd ⟨h, pd⟩ Q := WLO_step rfl
theorem WO_sl0 {a0} : WLO T rd (⟨dst, .sl0 a0, g⟩ :: os) fs env ⟨h, pd⟩ Q ↔ WLV T rd (wants env g) (stepK env h h h.length rd.wp (.sl0 a0)) dst os fs env pd ⟨h, pd⟩ Q := WLO_step rfl
theorem WO_len {a0} {a1} : WLO T rd (⟨dst, .len a0 a1, g⟩ :: os) fs env ⟨h, pd⟩ Q ↔ WLV T rd (wants env g) (stepK env h h h.length rd.wp (.len a0 a1)) dst os fs env pd ⟨h, pd⟩ Q := WLO_step rfl
theorem WO_app {a0} {a1} {a2} : WLO T rd (⟨dst, .app a0 a1 a2, g⟩ :: os) fs env ⟨h, pd⟩ Q ↔ WLV T rd (wants env g) (stepK env h h h.length rd.wp (.app a0 a1 a2)) dst os fs env pd ⟨h, pd⟩ Q := WLO_step rfl
theorem WO_mnx {a0} {a1} {a2} : WLO T rd (⟨dst, .mnx a0 a1 a2, g⟩ :: os) fs env ⟨h, pd⟩ Q ↔ WLV T rd (wants env g) (stepK env h h h.length rd.wp (.mnx a0 a1 a2)) dst os fs env pd ⟨h, pd⟩ Q := WLO_step rfl
theorem WO_ext {a0} {a1} : WLO T rd (⟨dst, .ext a0 a1, g⟩ :: os) fs env ⟨h, pd⟩ Q ↔ WLV T rd (wants env g) (stepK env h h h.length rd.wp (.ext a0 a1)) dst os fs env pd ⟨h, pd⟩ Q := WLO_step rfl
theorem WO_nilc {a0} : WLO T rd (⟨dst, .nilc a0, g⟩ :: os) fs env ⟨h, pd⟩ Q ↔ WLV T rd (wants env g) (stepK env h h h.length rd.wp (.nilc a0)) dst os fs env pd ⟨h, pd⟩ Q := WLO_step rfl
end
theorem WLO_call {dst : Option Nat} {f : X} {args : List X} {g : Option (Nat × Bool)} {os : List COp} {fs : List Fr} : WLO T rd (⟨dst, .call f args, g⟩ :: os) fs env st Q ↔ WLC T rd (wants env g) (evX env f) (evXs env args) dst os fs env st Q := by
  unfold WLO WLC
  rw [WO_cons]
  exact Iff.rfl

theorem WG_true {A B : Prop} : WG (some true) A B ↔ A := Iff.rfl
theorem WG_false {A B : Prop} : WG (some false) A B ↔ B := by simp [WG]
theorem WG_split {b : Bool} {A B : Prop} (h1 : b = true → A) (h2 : b = false → B) : WG (some b) A B := by
  cases b
  · exact WG_false.2 (h2 rfl)
  · exact WG_true.2 (h1 rfl)

section
variable {dst : Option Nat} {os : List COp} {fs : List Fr} {pd : List (Option Ex)}
theorem WLV_true {v : AV} {h : Heap} : WLV T rd (some true) (some (v, h)) dst os fs env pd st Q ↔ WLO T rd os fs (putE env dst v) ⟨h, pd⟩ Q := Iff.rfl
theorem WLV_false {r : Option (AV × Heap)} : WLV T rd (some false) r dst os fs env pd st Q ↔ WLO T rd os fs (putE env dst (.tup [])) st Q := WG_false
theorem WLV_split {b : Bool} {r : Option (AV × Heap)} (h1 : b = true → WLV T rd (some true) r dst os fs env pd st Q) (h2 : b = false → WLO T rd os fs (putE env dst (.tup [])) st Q) : WLV T rd (some b) r dst os fs env pd st Q := by
  cases b
  · exact WLV_false.2 (h2 rfl)
  · exact h1 rfl
theorem WLV_splitN {b : Bool} {r : Option (AV × Heap)} (h1 : b = false → WLV T rd (some true) r dst os fs env pd st Q) (h2 : b = true → WLO T rd os fs (putE env dst (.tup [])) st Q) : WLV T rd (some (!b)) r dst os fs env pd st Q := by
  cases b
  · exact h1 rfl
  · exact WLV_false.2 (h2 rfl)
theorem WLC_false {fv : Option AV} {args : Option (List AV)} : WLC T rd (some false) fv args dst os fs env st Q ↔ WLO T rd os fs (putE env dst (.tup [])) st Q := WG_false
theorem WLC_split {b : Bool} {fv : Option AV} {args : Option (List AV)} (h1 : b = true → WLC T rd (some true) fv args dst os fs env st Q) (h2 : b = false → WLO T rd os fs (putE env dst (.tup [])) st Q) : WLC T rd (some b) fv args dst os fs env st Q := by
  cases b
  · exact WLC_false.2 (h2 rfl)
  · exact h1 rfl
theorem WLC_splitN {b : Bool} {fv : Option AV} {args : Option (List AV)} (h1 : b = false → WLC T rd (some true) fv args dst os fs env st Q) (h2 : b = true → WLO T rd os fs (putE env dst (.tup [])) st Q) : WLC T rd (some (!b)) fv args dst os fs env st Q := by
  cases b
  · exact h1 rfl
  · exact WLC_false.2 (h2 rfl)
theorem WLC_true {fv : AV} {vs : List AV} : WLC T rd (some true) (some fv) (some vs) dst os fs env st Q ↔ WC T rd fv vs st (fun v st' => WLO T rd os fs (putE env dst v) st' Q) := Iff.rfl
theorem WLB_true {a b : CCode} : WLB T rd (some (.d (.bool true))) a b fs env st Q ↔ WL T rd (.code a :: fs) env st Q := by simp [WLB, WB]
theorem WLB_false {a b : CCode} : WLB T rd (some (.d (.bool false))) a b fs env st Q ↔ WL T rd (.code b :: fs) env st Q := by simp [WLB, WB]
theorem WLB_split {t : Bool} {a b : CCode} (h1 : t = true → WL T rd (.code a :: fs) env st Q) (h2 : t = false → WL T rd (.code b :: fs) env st Q) : WLB T rd (some (.d (.bool t))) a b fs env st Q := by
  cases t
  · exact WLB_false.2 (h2 rfl)
  · exact WLB_true.2 (h1 rfl)

theorem WLB_splitN {t : Bool} {a b : CCode} (h1 : t = false → WL T rd (.code a :: fs) env st Q) (h2 : t = true → WL T rd (.code b :: fs) env st Q) : WLB T rd (some (.d (.bool (!t)))) a b fs env st Q := by
  cases t
  · exact WLB_true.2 (h1 rfl)
  · exact WLB_false.2 (h2 rfl)

/-- A call of a function known by its contract. -/
theorem WLC_orc {f : Nat} {F : List DV → Option (List DV)} {args : List AV} (ho : T.orc f = some F) {dvs rs : List DV} (hd : toDVs st.h args = some dvs) (hF : F dvs = some rs) (ht : (!args.any AV.tied || rs.all DV.flat) = true) :
    WLC T rd (some true) (some (.fn f [])) (some args) dst os fs env st Q ↔ WLO T rd os fs (putE env dst (oneOf (rs.map DV.av))) st Q := by
  rw [WLC_true]
  constructor
  · rintro ⟨n, v, st', h, q⟩
    cases n with
    | zero => simp [evCall] at h
    | succ n => simp only [evCall, ho, hd, hF, if_pos ht, Option.some.injEq, Prod.mk.injEq] at h; obtain ⟨rfl, rfl⟩ := h; exact q
  · exact fun q => WC_orc ho hd hF ht q
end

theorem look_put {e : Env} {k t : Nat} {v : AV} : look (putE e (some k) v) t = if k = t then some v else look e t := rfl
theorem look_putN {e : Env} {t : Nat} {v : AV} : look (putE e none v) t = look e t := rfl
theorem look_cons {e : Env} {k t : Nat} {v : AV} : look ((k, v) :: e) t = if k = t then some v else look e t := rfl
theorem look_arg0 {i t : Nat} : look (argEnv i []) t = none := rfl
theorem look_arg {i t : Nat} {v : AV} {vs : List AV} : look (argEnv i (v :: vs)) t = if i = t then some v else look (argEnv (i + 1) vs) t := rfl

theorem evX_t {n : Nat} : evX env (.t n) = look env n := rfl
theorem evX_c {v : AV} : evX env (.c v) = some v := rfl
theorem evXs_nil : evXs env [] = some [] := rfl
theorem evXs_cons {x : X} {xs : List X} : evXs env (x :: xs) = match evX env x, evXs env xs with | some v, some vs => some (v :: vs) | _, _ => none := rfl
theorem wants_none : wants env none = some true := rfl
def wantv (b : Bool) : Option AV → Option Bool
  | some (.d (.bool c)) => some (c == b)
  | some (.tup []) => some false
  | _ => none
theorem wants_some {t : Nat} {b : Bool} : wants env (some (t, b)) = wantv b (look env t) := by
  unfold wants wantv
  rfl
theorem wantv_b {b c : Bool} : wantv b (some (.d (.bool c))) = some (c == b) := rfl
theorem wantv_t {b : Bool} : wantv b (some (.tup [])) = some false := rfl
end
end Go.Proofs.Ytbeocehhclfbiaa.Lite
namespace Go.Proofs.Ytbeocehhclfbiaa.Lite
open Go Go.RowKit

section
variable {T : Tbl} {rd : Rd} {env : Env} {st : St} {Q : Ex → Env → St → Prop}

def WLP (T : Tbl) (rd : Rd) (h0 : Heap) (p : Nat) (os suf : List COp) (m : Nat) (fs : List Fr) (env : Env) (h : Heap) (pd : List (Option Ex)) (Q : Ex → Env → St → Prop) : Prop :=
  WP T { lp := rd.lp.map fun _ => none, wp := h0.length } h0 rd.wp p os env h pd (fun env' h' => WLO T rd suf fs env' ⟨padH h' (h0.length + m), pd⟩ Q)
def WLPV (T : Tbl) (rd : Rd) (h0 : Heap) (p : Nat) (g : Option Bool) (r : Option (AV × Heap)) (dst : Option Nat) (os suf : List COp) (m : Nat) (fs : List Fr) (env : Env) (h : Heap) (pd : List (Option Ex)) (Q : Ex → Env → St → Prop) : Prop :=
  WG g (match r with | some (v, h') => WLP T rd h0 (p + 1) os suf m fs (putE env dst v) h' pd Q | none => False) (WLP T rd h0 (p + 1) os suf m fs (putE env dst (.tup [])) h pd Q)
def WLPC (T : Tbl) (rd : Rd) (h0 : Heap) (p : Nat) (g : Option Bool) (fv : Option AV) (args : Option (List AV)) (dst : Option Nat) (os suf : List COp) (m : Nat) (fs : List Fr) (env : Env) (h : Heap) (pd : List (Option Ex)) (Q : Ex → Env → St → Prop) : Prop :=
  WG g (match fv, args with
    | some fv, some vs => (fv :: vs).all (AV.lows h0.length pd.length) = true ∧ WC T { lp := rd.lp.map fun _ => none, wp := h0.length } fv vs { h := h0.map hideT, pd := pd } (fun v st' => st'.h.length = h0.length ∧ WLP T rd h0 (p + 1) os suf m fs (putE env dst v) h pd Q)
    | _, _ => False) (WLP T rd h0 (p + 1) os suf m fs (putE env dst (.tup [])) h pd Q)

theorem WL_dreg {pre suf : List COp} {fs : List Fr} {h : Heap} {pd : List (Option Ex)} : WL T rd (.code (.dreg pre suf) :: fs) env ⟨h, pd⟩ Q ↔ WLP T rd h 0 pre suf pre.length fs env h pd Q := W_dreg
theorem WL_sreg {er : List Nat} {pre suf : List COp} {fs : List Fr} {h : Heap} {pd : List (Option Ex)} : WL T rd (.code (.sreg er pre suf) :: fs) env ⟨h, pd⟩ Q ↔ WLP T rd (eraseB env er h) 0 pre suf pre.length fs env h pd Q := by
  unfold WLP
  rw [eraseB_length]
  exact W_sreg
section
variable {h0 h : Heap} {p m : Nat} {os suf : List COp} {fs : List Fr} {pd : List (Option Ex)} {dst : Option Nat} {g : Option (Nat × Bool)}
theorem WLP_nil : WLP T rd h0 p [] suf m fs env h pd Q ↔ WLO T rd suf fs env ⟨padH h (h0.length + m), pd⟩ Q := WP_nil
theorem WLP_step {k : K} (hk : k.isCall = false) (hs : (match k with | .st _ _ _ => true | _ => false) = false) : WLP T rd h0 p (⟨dst, k, g⟩ :: os) suf m fs env h pd Q ↔ WLPV T rd h0 p (wants env g) (stepK env h0 h (h0.length + p) rd.wp k) dst os suf m fs env h pd Q := by
  unfold WLP WLPV
  rw [WP_cons]
  cases k <;> first | exact Iff.rfl | (cases hk; done) | cases hs
theorem WP_mv {a0} : WLP T rd h0 p (⟨dst, .mv a0, g⟩ :: os) suf m fs env h pd Q ↔ WLPV T rd h0 p (wants env g) (stepK env h0 h (h0.length + p) rd.wp (.mv a0)) dst os suf m fs env h pd Q := WLP_step rfl rfl
theorem WP_pick {a0} {a1} {a2} : WLP T rd h0 p (⟨dst, .pick a0 a1 a2, g⟩ :: os) suf m fs env h pd Q ↔ WLPV T rd h0 p (wants env g) (stepK env h0 h (h0.length + p) rd.wp (.pick a0 a1 a2)) dst os suf m fs env h pd Q := WLP_step rfl rfl
theorem WP_new {a0} : WLP T rd h0 p (⟨dst, .new a0, g⟩ :: os) suf m fs env h pd Q ↔ WLPV T rd h0 p (wants env g) (stepK env h0 h (h0.length + p) rd.wp (.new a0)) dst os suf m fs env h pd Q := WLP_step rfl rfl
theorem WP_box {a0} : WLP T rd h0 p (⟨dst, .box a0, g⟩ :: os) suf m fs env h pd Q ↔ WLPV T rd h0 p (wants env g) (stepK env h0 h (h0.length + p) rd.wp (.box a0)) dst os suf m fs env h pd Q := WLP_step rfl rfl
theorem WP_ld {a0} : WLP T rd h0 p (⟨dst, .ld a0, g⟩ :: os) suf m fs env h pd Q ↔ WLPV T rd h0 p (wants env g) (stepK env h0 h (h0.length + p) rd.wp (.ld a0)) dst os suf m fs env h pd Q := WLP_step rfl rfl
theorem WP_ldn {a0} {a1} : WLP T rd h0 p (⟨dst, .ldn a0 a1, g⟩ :: os) suf m fs env h pd Q ↔ WLPV T rd h0 p (wants env g) (stepK env h0 h (h0.length + p) rd.wp (.ldn a0 a1)) dst os suf m fs env h pd Q := WLP_step rfl rfl
theorem WP_off {a0} {a1} : WLP T rd h0 p (⟨dst, .off a0 a1, g⟩ :: os) suf m fs env h pd Q ↔ WLPV T rd h0 p (wants env g) (stepK env h0 h (h0.length + p) rd.wp (.off a0 a1)) dst os suf m fs env h pd Q := WLP_step rfl rfl
theorem WP_ixa {a0} {a1} {a2} {a3} : WLP T rd h0 p (⟨dst, .ixa a0 a1 a2 a3, g⟩ :: os) suf m fs env h pd Q ↔ WLPV T rd h0 p (wants env g) (stepK env h0 h (h0.length + p) rd.wp (.ixa a0 a1 a2 a3)) dst os suf m fs env h pd Q := WLP_step rfl rfl
theorem WP_ixs {a0} {a1} {a2} : WLP T rd h0 p (⟨dst, .ixs a0 a1 a2, g⟩ :: os) suf m fs env h pd Q ↔ WLPV T rd h0 p (wants env g) (stepK env h0 h (h0.length + p) rd.wp (.ixs a0 a1 a2)) dst os suf m fs env h pd Q := WLP_step rfl rfl
theorem WP_fld {a0} {a1} : WLP T rd h0 p (⟨dst, .fld a0 a1, g⟩ :: os) suf m fs env h pd Q ↔ WLPV T rd h0 p (wants env g) (stepK env h0 h (h0.length + p) rd.wp (.fld a0 a1)) dst os suf m fs env h pd Q := WLP_step rfl rfl
theorem WP_fldn {a0} {a1} {a2} : WLP T rd h0 p (⟨dst, .fldn a0 a1 a2, g⟩ :: os) suf m fs env h pd Q ↔ WLPV T rd h0 p (wants env g) (stepK env h0 h (h0.length + p) rd.wp (.fldn a0 a1 a2)) dst os suf m fs env h pd Q := WLP_step rfl rfl
theorem WP_ixv {a0} {a1} {a2} : WLP T rd h0 p (⟨dst, .ixv a0 a1 a2, g⟩ :: os) suf m fs env h pd Q ↔ WLPV T rd h0 p (wants env g) (stepK env h0 h (h0.length + p) rd.wp (.ixv a0 a1 a2)) dst os suf m fs env h pd Q := WLP_step rfl rfl
theorem WP_ixvn {a0} {a1} {a2} {a3} : WLP T rd h0 p (⟨dst, .ixvn a0 a1 a2 a3, g⟩ :: os) suf m fs env h pd Q ↔ WLPV T rd h0 p (wants env g) (stepK env h0 h (h0.length + p) rd.wp (.ixvn a0 a1 a2 a3)) dst os suf m fs env h pd Q := WLP_step rfl rfl
theorem WP_ixb {a0} {a1} : WLP T rd h0 p (⟨dst, .ixb a0 a1, g⟩ :: os) suf m fs env h pd Q ↔ WLPV T rd h0 p (wants env g) (stepK env h0 h (h0.length + p) rd.wp (.ixb a0 a1)) dst os suf m fs env h pd Q := WLP_step rfl rfl
theorem WP_bin {a0} {a1} {a2} : WLP T rd h0 p (⟨dst, .bin a0 a1 a2, g⟩ :: os) suf m fs env h pd Q ↔ WLPV T rd h0 p (wants env g) (stepK env h0 h (h0.length + p) rd.wp (.bin a0 a1 a2)) dst os suf m fs env h pd Q := WLP_step rfl rfl
theorem WP_eqb {a0} {a1} {a2} : WLP T rd h0 p (⟨dst, .eqb a0 a1 a2, g⟩ :: os) suf m fs env h pd Q ↔ WLPV T rd h0 p (wants env g) (stepK env h0 h (h0.length + p) rd.wp (.eqb a0 a1 a2)) dst os suf m fs env h pd Q := WLP_step rfl rfl
theorem WP_isn {a0} {a1} {a2} : WLP T rd h0 p (⟨dst, .isn a0 a1 a2, g⟩ :: os) suf m fs env h pd Q ↔ WLPV T rd h0 p (wants env g) (stepK env h0 h (h0.length + p) rd.wp (.isn a0 a1 a2)) dst os suf m fs env h pd Q := WLP_step rfl rfl
theorem WP_eqs {a0} {a1} {a2} {a3} : WLP T rd h0 p (⟨dst, .eqs a0 a1 a2 a3, g⟩ :: os) suf m fs env h pd Q ↔ WLPV T rd h0 p (wants env g) (stepK env h0 h (h0.length + p) rd.wp (.eqs a0 a1 a2 a3)) dst os suf m fs env h pd Q := WLP_step rfl rfl
theorem WP_not {a0} : WLP T rd h0 p (⟨dst, .not a0, g⟩ :: os) suf m fs env h pd Q ↔ WLPV T rd h0 p (wants env g) (stepK env h0 h (h0.length + p) rd.wp (.not a0)) dst os suf m fs env h pd Q := WLP_step rfl rfl
theorem WP_conv {a0} {a1} : WLP T rd h0 p (⟨dst, .conv a0 a1, g⟩ :: os) suf m fs env h pd Q ↔ WLPV T rd h0 p (wants env g) (stepK env h0 h (h0.length + p) rd.wp (.conv a0 a1)) dst os suf m fs env h pd Q := WLP_step rfl rfl
theorem WP_mkf {a0} {a1} : WLP T rd h0 p (⟨dst, .mkf a0 a1, g⟩ :: os) suf m fs env h pd Q ↔ WLPV T rd h0 p (wants env g) (stepK env h0 h (h0.length + p) rd.wp (.mkf a0 a1)) dst os suf m fs env h pd Q := WLP_step rfl rfl
theorem WP_bld {a0} {a1} : WLP T rd h0 p (⟨dst, .bld a0 a1, g⟩ :: os) suf m fs env h pd Q ↔ WLPV T rd h0 p (wants env g) (stepK env h0 h (h0.length + p) rd.wp (.bld a0 a1)) dst os suf m fs env h pd Q := WLP_step rfl rfl
theorem WP_bls {a0} {a1} {a2} {a3} : WLP T rd h0 p (⟨dst, .bls a0 a1 a2 a3, g⟩ :: os) suf m fs env h pd Q ↔ WLPV T rd h0 p (wants env g) (stepK env h0 h (h0.length + p) rd.wp (.bls a0 a1 a2 a3)) dst os suf m fs env h pd Q := WLP_step rfl rfl
theorem WP_sla {a0} {a1} {a2} {a3} {a4} : WLP T rd h0 p (⟨dst, .sla a0 a1 a2 a3 a4, g⟩ :: os) suf m fs env h pd Q ↔ WLPV T rd h0 p (wants env g) (stepK env h0 h (h0.length + p) rd.wp (.sla a0 a1 a2 a3 a4)) dst os suf m fs env h pd Q := WLP_step rfl rfl
theorem WP_sls {a0} {a1} {a2} {a3} : WLP T rd h0 p (⟨dst, .sls a0 a1 a2 a3, g⟩ :: os) suf m fs env h pd Q ↔ WLPV T rd h0 p (wants env g) (stepK env h0 h (h0.length + p) rd.wp (.sls a0 a1 a2 a3)) dst os suf m fs env h pd Q := WLP_step rfl rfl
theorem WP_sl0 {a0} : WLP T rd h0 p (⟨dst, .sl0 a0, g⟩ :: os) suf m fs env h pd Q ↔ WLPV T rd h0 p (wants env g) (stepK env h0 h (h0.length + p) rd.wp (.sl0 a0)) dst os suf m fs env h pd Q := WLP_step rfl rfl
theorem WP_len {a0} {a1} : WLP T rd h0 p (⟨dst, .len a0 a1, g⟩ :: os) suf m fs env h pd Q ↔ WLPV T rd h0 p (wants env g) (stepK env h0 h (h0.length + p) rd.wp (.len a0 a1)) dst os suf m fs env h pd Q := WLP_step rfl rfl
theorem WP_app {a0} {a1} {a2} : WLP T rd h0 p (⟨dst, .app a0 a1 a2, g⟩ :: os) suf m fs env h pd Q ↔ WLPV T rd h0 p (wants env g) (stepK env h0 h (h0.length + p) rd.wp (.app a0 a1 a2)) dst os suf m fs env h pd Q := WLP_step rfl rfl
theorem WP_mnx {a0} {a1} {a2} : WLP T rd h0 p (⟨dst, .mnx a0 a1 a2, g⟩ :: os) suf m fs env h pd Q ↔ WLPV T rd h0 p (wants env g) (stepK env h0 h (h0.length + p) rd.wp (.mnx a0 a1 a2)) dst os suf m fs env h pd Q := WLP_step rfl rfl
theorem WP_ext {a0} {a1} : WLP T rd h0 p (⟨dst, .ext a0 a1, g⟩ :: os) suf m fs env h pd Q ↔ WLPV T rd h0 p (wants env g) (stepK env h0 h (h0.length + p) rd.wp (.ext a0 a1)) dst os suf m fs env h pd Q := WLP_step rfl rfl
theorem WP_nilc {a0} : WLP T rd h0 p (⟨dst, .nilc a0, g⟩ :: os) suf m fs env h pd Q ↔ WLPV T rd h0 p (wants env g) (stepK env h0 h (h0.length + p) rd.wp (.nilc a0)) dst os suf m fs env h pd Q := WLP_step rfl rfl
theorem WP_st {a0} {a1} {a2} : WLP T rd h0 p (⟨dst, .st a0 a1 a2, g⟩ :: os) suf m fs env h pd Q ↔ WLPV T rd h0 p (wants env g) (preSt env h0 h (h0.length + p) rd.wp a0 a1 a2) dst os suf m fs env h pd Q := by
  unfold WLP WLPV
  rw [WP_cons]
  exact Iff.rfl
theorem WLP_call {f : X} {args : List X} : WLP T rd h0 p (⟨dst, .call f args, g⟩ :: os) suf m fs env h pd Q ↔ WLPC T rd h0 p (wants env g) (evX env f) (evXs env args) dst os suf m fs env h pd Q := by
  unfold WLP WLPC
  rw [WP_cons]
  exact Iff.rfl
theorem WLPV_true {v : AV} {h' : Heap} : WLPV T rd h0 p (some true) (some (v, h')) dst os suf m fs env h pd Q ↔ WLP T rd h0 (p + 1) os suf m fs (putE env dst v) h' pd Q := Iff.rfl
theorem WLPV_false {r : Option (AV × Heap)} : WLPV T rd h0 p (some false) r dst os suf m fs env h pd Q ↔ WLP T rd h0 (p + 1) os suf m fs (putE env dst (.tup [])) h pd Q := WG_false
theorem WLPV_split {b : Bool} {r : Option (AV × Heap)} (h1 : b = true → WLPV T rd h0 p (some true) r dst os suf m fs env h pd Q) (h2 : b = false → WLP T rd h0 (p + 1) os suf m fs (putE env dst (.tup [])) h pd Q) : WLPV T rd h0 p (some b) r dst os suf m fs env h pd Q := by
  cases b
  · exact WLPV_false.2 (h2 rfl)
  · exact h1 rfl
theorem WLPV_splitN {b : Bool} {r : Option (AV × Heap)} (h1 : b = false → WLPV T rd h0 p (some true) r dst os suf m fs env h pd Q) (h2 : b = true → WLP T rd h0 (p + 1) os suf m fs (putE env dst (.tup [])) h pd Q) : WLPV T rd h0 p (some (!b)) r dst os suf m fs env h pd Q := by
  cases b
  · exact h1 rfl
  · exact WLPV_false.2 (h2 rfl)
theorem WLPC_false {fv : Option AV} {args : Option (List AV)} : WLPC T rd h0 p (some false) fv args dst os suf m fs env h pd Q ↔ WLP T rd h0 (p + 1) os suf m fs (putE env dst (.tup [])) h pd Q := WG_false
theorem WLPC_split {b : Bool} {fv : Option AV} {args : Option (List AV)} (h1 : b = true → WLPC T rd h0 p (some true) fv args dst os suf m fs env h pd Q) (h2 : b = false → WLP T rd h0 (p + 1) os suf m fs (putE env dst (.tup [])) h pd Q) : WLPC T rd h0 p (some b) fv args dst os suf m fs env h pd Q := by
  cases b
  · exact WLPC_false.2 (h2 rfl)
  · exact h1 rfl
theorem WLPC_splitN {b : Bool} {fv : Option AV} {args : Option (List AV)} (h1 : b = false → WLPC T rd h0 p (some true) fv args dst os suf m fs env h pd Q) (h2 : b = true → WLP T rd h0 (p + 1) os suf m fs (putE env dst (.tup [])) h pd Q) : WLPC T rd h0 p (some (!b)) fv args dst os suf m fs env h pd Q := by
  cases b
  · exact h1 rfl
  · exact WLPC_false.2 (h2 rfl)
end

/-! ### Calls of functions known by their contracts -/
class Has (T : Tbl) (f : Nat) (F : outParam (List DV → Option (List DV))) : Prop where
  h : T.orc f = some F
/-- what such a function tells of these arguments -/
class Tells (F : List DV → Option (List DV)) (args : List AV) (x : outParam AV) : Prop where
  h : ∃ dvs rs, (∀ h, toDVs h args = some dvs) ∧ F dvs = some rs ∧ x = oneOf (rs.map DV.av) ∧ (!args.any AV.tied || rs.all DV.flat) = true ∧ ∀ N M, args.all (AV.lows N M) = true

theorem WLC_tells {f : Nat} {F : List DV → Option (List DV)} {args : List AV} {x : AV} {dst : Option Nat} {os : List COp} {fs : List Fr} [hT : Has T f F] [hF : Tells F args x] :
    WLC T rd (some true) (some (.fn f [])) (some args) dst os fs env st Q ↔ WLO T rd os fs (putE env dst x) st Q := by
  obtain ⟨dvs, rs, h1, h2, rfl, h4, _⟩ := hF.h
  exact WLC_orc hT.h (h1 _) h2 h4

theorem WLPC_tells {f : Nat} {F : List DV → Option (List DV)} {args : List AV} {x : AV} {dst : Option Nat} {h0 h : Heap} {p m : Nat} {os suf : List COp} {fs : List Fr} {pd : List (Option Ex)} [hT : Has T f F] [hF : Tells F args x] :
    WLPC T rd h0 p (some true) (some (.fn f [])) (some args) dst os suf m fs env h pd Q ↔ WLP T rd h0 (p + 1) os suf m fs (putE env dst x) h pd Q := by
  obtain ⟨dvs, rs, h1, h2, rfl, h4, h5⟩ := hF.h
  constructor
  · rintro ⟨_, n, v, st', he, _, q⟩
    cases n with
    | zero => simp [evCall] at he
    | succ n => simp only [evCall, hT.h, h1, h2, if_pos h4, Option.some.injEq, Prod.mk.injEq] at he; obtain ⟨rfl, rfl⟩ := he; exact q
  · intro q
    refine ⟨?_, WC_orc hT.h (h1 _) h2 h4 ⟨by simp, q⟩⟩
    rw [List.all_cons, h5]; rfl

theorem WL_code {c : CCode} {fs : List Fr} : WL T rd (.code c :: fs) env st Q ↔ W T rd c env st (fun e env st => WJ T rd e fs env st Q) := Iff.rfl
/-- what comes behind a round -/
def afterY (T : Tbl) (rd : Rd) (i : Nat) (dst : Option Nat) (os : List COp) (fs : List Fr) (env : Env) (h : Heap) (Q : Ex → Env → St → Prop) : Ex → Env → St → Prop
  | .nm, _, st2 => WLO T rd os fs (putE env dst (.d (.bool true))) ⟨gc h.length rd.lp.length [] st2.h, st2.pd⟩ Q
  | e, _, st2 => WLO T rd os fs (putE env dst (.d (.bool false))) ⟨gc h.length rd.lp.length [] st2.h, st2.pd.set i (some e)⟩ Q

theorem WLC_yld {i : Nat} {args : List AV} {r : LRec} {h : Heap} {pd : List (Option Ex)} {dst : Option Nat} {os : List COp} {fs : List Fr} (hi : rd.lp[i]? = some (some r)) (hp : pd[i]? = some none) (hl : args.length = r.ps.length)
    (hh : WL T { rd with lp := rd.lp.set i none } [.code r.asg] (bindPs r.ps args r.env) ⟨h, pd⟩ (fun e env1 st1 => e = .nm ∧ WL T { rd with lp := rd.lp.set i none } [.code r.body] env1 st1 (afterY T rd i dst os fs env h Q))) :
    WLC T rd (some true) (some (.yld i)) (some args) dst os fs env ⟨h, pd⟩ Q := by
  rw [WLC_true]
  refine WC_yld hi hp hl (W.mono hh ?_)
  rintro e env1 st1 ⟨he, h2⟩
  refine ⟨he, W.mono h2 ?_⟩
  intro e2 env2 st2 h3
  cases e2 <;> exact h3

/-- what comes behind a call whose code is carried out -/
def afterC (T : Tbl) (rd : Rd) (cf : CFun) (dst : Option Nat) (os : List COp) (fs : List Fr) (env : Env) (h : Heap) (Q : Ex → Env → St → Prop) : Ex → Env → St → Prop := fun e env' st' =>
  (match e with | .nm | .rt => True | _ => False) ∧ match evRes env' st'.h cf.res with
    | some vs => WLO T rd os fs (putE env dst (oneOf vs)) ⟨gc h.length rd.lp.length vs st'.h, st'.pd⟩ Q
    | none => False

theorem WLC_fn {f : Nat} {caps args : List AV} {cf : CFun} {h : Heap} {pd : List (Option Ex)} {dst : Option Nat} {os : List COp} {fs : List Fr} (ho : T.orc f = none) (hc : T.code f = some cf) (hl : (args ++ caps).length = cf.np)
    (hh : WL T rd [.code cf.body] (argEnv 0 (args ++ caps)) ⟨h, pd⟩ (afterC T rd cf dst os fs env h Q)) : WLC T rd (some true) (some (.fn f caps)) (some args) dst os fs env ⟨h, pd⟩ Q := by
  rw [WLC_true, WC_code ho hc]
  refine ⟨hl, W.mono hh ?_⟩
  intro e env' st' h2
  exact h2

/-- what comes behind a call whose code is carried out, in a region that draws its order -/
def afterPC (T : Tbl) (rd : Rd) (h0 : Heap) (p : Nat) (cf : CFun) (dst : Option Nat) (os suf : List COp) (m : Nat) (fs : List Fr) (env : Env) (h : Heap) (pd : List (Option Ex)) (Q : Ex → Env → St → Prop) : Ex → Env → St → Prop := fun e env' st' =>
  (match e with | .nm | .rt => True | _ => False) ∧ match evRes env' st'.h cf.res with
    | some vs => (gc h0.length rd.lp.length vs st'.h).length = h0.length ∧ WLP T rd h0 (p + 1) os suf m fs (putE env dst (oneOf vs)) h pd Q
    | none => False

theorem WLPC_fn {h0 h : Heap} {p m f : Nat} {caps args : List AV} {cf : CFun} {os suf : List COp} {fs : List Fr} {pd : List (Option Ex)} {dst : Option Nat} (ho : T.orc f = none) (hc : T.code f = some cf) (hl : (args ++ caps).length = cf.np)
    (hlow : (AV.fn f caps :: args).all (AV.lows h0.length pd.length) = true) (hh : WL T { lp := rd.lp.map fun _ => none, wp := h0.length } [.code cf.body] (argEnv 0 (args ++ caps)) ⟨h0.map hideT, pd⟩ (afterPC T rd h0 p cf dst os suf m fs env h pd Q)) :
    WLPC T rd h0 p (some true) (some (.fn f caps)) (some args) dst os suf m fs env h pd Q := by
  show _ ∧ WC _ _ _ _ _ _
  refine ⟨hlow, ?_⟩
  rw [WC_code ho hc]
  refine ⟨hl, W.mono hh ?_⟩
  rintro e env' st' ⟨h1, h2⟩
  refine ⟨h1, ?_⟩
  split at h2
  · rename_i vs hv
    simp only [hv, List.length_map]
    exact h2
  · exact h2.elim

/-- what comes behind a range -/
def afterR (T : Tbl) (rd : Rd) (cf : CFun) (fs : List Fr) (env : Env) (h : Heap) (Q : Ex → Env → St → Prop) : Ex → Env → St → Prop := fun e env' st' =>
  (match e with | .nm | .rt => True | _ => False) ∧ match evRes env' st'.h cf.res with
    | some vs => (gc h.length (rd.lp.length + 1) vs st'.h).all (lowObj (gc h.length (rd.lp.length + 1) vs st'.h).length rd.lp.length) = true ∧
      match st'.pd[rd.lp.length]? with
        | some q => WJ T rd (q.getD .nm) fs env ⟨gc h.length (rd.lp.length + 1) vs st'.h, st'.pd.take rd.lp.length⟩ Q
        | none => False
    | none => False

theorem WL_range {x : X} {ps : List Nat} {asg b : CCode} {fs : List Fr} {f : Nat} {caps : List AV} {cf : CFun} {h : Heap} {pd : List (Option Ex)} (hx : evX env x = some (.fn f caps)) (ho : T.orc f = none) (hc : T.code f = some cf) (hl : ([AV.yld rd.lp.length] ++ caps).length = cf.np)
    (hh : WL T { rd with lp := rd.lp ++ [some ⟨ps, asg, b, env⟩] } [.code cf.body] (argEnv 0 ([.yld rd.lp.length] ++ caps)) ⟨h, pd ++ [none]⟩ (afterR T rd cf fs env h Q)) : WL T rd (.code (.range x ps asg b) :: fs) env ⟨h, pd⟩ Q := by
  rw [WL_code, W_range]
  unfold WR
  rw [hx]
  simp only
  rw [WC_code ho hc]
  refine ⟨hl, W.mono hh ?_⟩
  rintro e env' st' ⟨h1, h2⟩
  refine ⟨h1, ?_⟩
  split at h2
  · rename_i vs hv
    obtain ⟨h3, h4⟩ := h2
    simp only [hv, List.length_append, List.length_singleton]
    refine ⟨h3, ?_⟩
    split at h4
    · rename_i q hq
      first | (simp only [hq]; exact h4) | exact h4 | simpa [hq] using h4
    · exact h4.elim
  · exact h2.elim

theorem WL_scope {keep : List Nat} {b : CCode} {fs : List Fr} : WL T rd (.code (.scope keep b) :: fs) env st Q ↔ WL T rd [.code b] env st (onGt T rd keep b st (fun e env st => WJ T rd e fs env st Q)) := by
  rw [WL_code, W_scope, WS_iff]
  exact Iff.rfl
theorem WS_wl {keep : List Nat} {w c : CCode} : WS T rd keep w c env st Q ↔ WL T rd [.code c] env st (onGt T rd keep w st Q) := WS_iff
theorem onGt_go {keep : List Nat} {whole rest : CCode} {st' : St} {l : Nat} (hf : findL whole l = some rest)
    (h : WL T rd [.code rest] (restrict keep env) ⟨gc st.h.length rd.lp.length ((restrict keep env).map (·.2)) st'.h, st'.pd⟩ (onGt T rd keep whole ⟨gc st.h.length rd.lp.length ((restrict keep env).map (·.2)) st'.h, st'.pd⟩ Q)) : onGt T rd keep whole st Q (.gt l) env st' := by
  simp only [onGt, hf]
  rw [WS_wl]
  exact h
theorem onGt_rt {keep : List Nat} {whole : CCode} {st' : St} : onGt T rd keep whole st Q .rt env st' ↔ Q .rt env st' := Iff.rfl
theorem onGt_nm {keep : List Nat} {whole : CCode} {st' : St} : onGt T rd keep whole st Q .nm env st' ↔ Q .nm env st' := Iff.rfl
theorem onGt_ex {keep : List Nat} {whole : CCode} {st' : St} {i : Nat} : onGt T rd keep whole st Q (.ex i) env st' ↔ Q (.ex i) env st' := Iff.rfl
theorem WJ_nm {fs : List Fr} : WJ T rd .nm fs env st Q ↔ WL T rd fs env st Q := Iff.rfl

theorem getO_nil {l : Nat} : getO [] l = none := by simp [getO]
theorem getO_zero {o : Option AObj} {h : Heap} : getO (o :: h) 0 = o := by simp [getO]
theorem getO_succ {o : Option AObj} {h : Heap} {l : Nat} : getO (o :: h) (l + 1) = getO h l := by simp [getO]
end
end Go.Proofs.Ytbeocehhclfbiaa.Lite
section
namespace Go.Proofs.Ytbeocehhclfbiaa.Lite
open Go
set_option maxRecDepth 100000

def SKIP : List Nat := []
def codeOk (P : Program) (f : Nat) : Bool := match code f with | some cf => SKIP.contains f || chkFun P f cf | none => true
theorem codes_ok : (List.range 105).all (codeOk Try.prog) = true := by kernel_rfl

def code1 (f : Nat) : Option CFun := if SKIP.contains f then none else code f

theorem code1_ok (f : Nat) (cf : CFun) (h : code1 f = some cf) : chkFun Try.prog f cf = true := by
  unfold code1 at h
  split at h
  · cases h
  · rename_i hn
    have hf : f < 105 := by
      unfold code at h
      rcases Nat.lt_or_ge f 105 with h1 | h1
      · exact h1
      · rw [List.getElem?_eq_none (by show codeL.length ≤ f; exact h1)] at h; cases h
    have := List.all_eq_true.1 codes_ok f (List.mem_range.2 hf)
    unfold codeOk at this
    rw [h] at this
    simp only [Bool.or_eq_true] at this
    exact this.resolve_left hn

/-- A table: the program's code, but for those known by their contracts. -/
def tbl (L : List (Nat × (List DV → Option (List DV)))) : Tbl := ⟨code1, fun f => (L.find? fun p => p.1 == f).map (·.2)⟩

theorem tbl_ok {L : List (Nat × (List DV → Option (List DV)))} (h : ∀ p ∈ L, Pure Try.prog p.1 p.2) : TblOK Try.prog (tbl L) where
  orc := fun f F hf => by
    simp only [tbl] at hf
    cases hq : L.find? fun p => p.1 == f with
    | none => rw [hq] at hf; cases hf
    | some p =>
      rw [hq] at hf
      simp only [Option.map_some, Option.some.injEq] at hf
      subst hf
      have h1 := List.find?_some hq
      simp only [beq_iff_eq] at h1
      subst h1
      exact h p (List.mem_of_find?_eq_some hq)
  code := fun f cf _ hc => code1_ok f cf hc
end Go.Proofs.Ytbeocehhclfbiaa.Lite
end
namespace Go.Proofs.Ytbeocehhclfbiaa.Lite
open Go

noncomputable def orcOf {α : Type} (enc : α → List DV) (ok : α → Prop) (out : α → List DV) : List DV → Option (List DV) := by
  classical exact fun dvs => if h : ∃ x, ok x ∧ enc x = dvs then some (out (Classical.choose h)) else none

theorem orcOf_inv {α : Type} {enc : α → List DV} {ok : α → Prop} {out : α → List DV} {dvs rs : List DV} (h : orcOf enc ok out dvs = some rs) : ∃ x, ok x ∧ enc x = dvs ∧ rs = out x := by
  unfold orcOf at h
  split at h
  · rename_i hx; cases h; exact ⟨_, (Classical.choose_spec hx).1, (Classical.choose_spec hx).2, rfl⟩
  · cases h

theorem orcOf_eq {α : Type} {enc : α → List DV} {ok : α → Prop} {out : α → List DV} {x : α} (hx : ok x) (inj : ∀ y, enc y = enc x → y = x) : orcOf enc ok out (enc x) = some (out x) := by
  unfold orcOf
  have h : ∃ y, ok y ∧ enc y = enc x := ⟨x, hx, rfl⟩
  rw [dif_pos h, inj _ (Classical.choose_spec h).2]

theorem con {T : Tbl} (hT : TblOK Try.prog T) {f : Nat} {cf : CFun} (ho : T.orc f = none) (hc : T.code f = some cf) {α : Type} {enc : α → List DV} {ok : α → Prop} {out : α → List DV}
    (h : ∀ x, ok x → WCd T ⟨[], 0⟩ f [] ((enc x).map DV.av) ⟨[], []⟩ (fun y st' => outs st'.h y = some (out x)) cf) : Pure Try.prog f (orcOf enc ok out) :=
  pure_of hT ho hc fun dvs rs hF => by
    obtain ⟨x, hx, rfl, rfl⟩ := orcOf_inv hF
    rw [WC_code ho hc]
    exact h x hx

def I (n : Int) : DV := .s (.int .i64 n)
def Bo (b : Bool) : DV := .s (.bool b)
abbrev vi (n : Int) : AV := .d (.int .i64 n)
abbrev vb (b : Bool) : AV := .d (.bool b)

theorem av_s (x : Dat) : (DV.s x).av = .d x := rfl

def place (n : Int) : Int := n % 65536
def far (a b : Int) : Int := (b - a) % 65536

theorem wrap64 (n : Int) : IntKind.i64.wrap n = if n % 18446744073709551616 ≥ 9223372036854775808 then n % 18446744073709551616 - 18446744073709551616 else n % 18446744073709551616 := by
  simp [IntKind.wrap, IntKind.bits, IntKind.signed]
end Go.Proofs.Ytbeocehhclfbiaa.Lite
namespace Go.Proofs.Ytbeocehhclfbiaa.Lite
open Go
attribute [local simp] WL_of WL_nil WL_blk WL_skip WL_label WL_exit WL_goto WL_seq WL_block WL_cond WL_reg WL_ret WJ_nil WJ_ex WJ_gt WJ_rt WJ_exb WJ_gtb WJ_rtb WLO_nil WLO_call WO_mv WO_pick WO_new WO_box WO_ld WO_ldn WO_st WO_off WO_ixa WO_ixs WO_fld WO_fldn WO_ixv WO_ixvn WO_ixb WO_bin WO_eqb WO_isn WO_eqs WO_not WO_conv WO_mkf WO_bld WO_bls WO_sla WO_sls WO_sl0 WO_len WO_app WO_mnx WO_ext WO_nilc wants_none wants_some wantv_b wantv_t WLV_true WLV_false WLC_false WLB_true WLB_false evX_t evX_c evXs_nil evXs_cons look_put look_putN look_cons look_arg0 look_arg stepK binOpA intOp strOp evRes oneOf outs gc toDV AV.dat? I Bo av_s List.map List.append_nil getO putO AV.cellsOf bne WL_dreg WLP_nil WLP_call WP_mv WP_pick WP_new WP_box WP_ld WP_ldn WP_off WP_ixa WP_ixs WP_fld WP_fldn WP_ixv WP_ixvn WP_ixb WP_bin WP_eqb WP_isn WP_eqs WP_not WP_conv WP_mkf WP_bld WP_bls WP_sla WP_sls WP_sl0 WP_len WP_app WP_mnx WP_ext WP_nilc WLPV_true WLPV_false WLPC_false WLC_tells WLPC_tells padH onNm onEx List.getElem?_cons_zero List.getElem?_cons_succ List.getElem?_nil restrict AV.lows lay AV.isCell lowObj AObj.lows WJ_nm AV.lows.go WL_scope onGt_rt onGt_nm onGt_ex WL_sreg WP_st preSt eraseB List.set_cons_zero List.set_cons_succ

noncomputable def place_F := orcOf (fun n : Int => [I n]) (fun _ => True) (fun n => [I (place n)])
instance (n : Int) : Tells place_F [.d (.int .i64 n)] (.d (.int .i64 (place n))) :=
  ⟨_, [I (place n)], fun _ => rfl, orcOf_eq (enc := fun n : Int => [I n]) trivial (fun y h => by simpa [I] using h), rfl, rfl, fun _ _ => rfl⟩
noncomputable def far_F := orcOf (fun p : Int × Int => [I p.1, I p.2]) (fun _ => True) (fun p => [I (far p.1 p.2)])
instance (a b : Int) : Tells far_F [.d (.int .i64 a), .d (.int .i64 b)] (.d (.int .i64 (far a b))) :=
  ⟨_, [I (far a b)], fun _ => rfl, orcOf_eq (enc := fun p : Int × Int => [I p.1, I p.2]) (x := (a, b)) trivial (fun y h => by simpa [I, Prod.ext_iff] using h), rfl, rfl, fun _ _ => rfl⟩
def inB (a x b : Int) : Bool := far a x != 0 && (decide (far a x < far a b) || far a b == 0)
def upToB (a x b : Int) : Bool := far x b == 0 || inB a x b
noncomputable def in_F := orcOf (fun p : Int × Int × Int => [I p.1, I p.2.1, I p.2.2]) (fun _ => True) (fun p => [Bo (inB p.1 p.2.1 p.2.2)])
instance (a x b : Int) : Tells in_F [.d (.int .i64 a), .d (.int .i64 x), .d (.int .i64 b)] (.d (.bool (inB a x b))) :=
  ⟨_, [Bo (inB a x b)], fun _ => rfl, orcOf_eq (enc := fun p : Int × Int × Int => [I p.1, I p.2.1, I p.2.2]) (x := (a, x, b)) trivial (fun y h => by simpa [I, Prod.ext_iff] using h), rfl, rfl, fun _ _ => rfl⟩
noncomputable def upTo_F := orcOf (fun p : Int × Int × Int => [I p.1, I p.2.1, I p.2.2]) (fun _ => True) (fun p => [Bo (upToB p.1 p.2.1 p.2.2)])
instance (a x b : Int) : Tells upTo_F [.d (.int .i64 a), .d (.int .i64 x), .d (.int .i64 b)] (.d (.bool (upToB a x b))) :=
  ⟨_, [Bo (upToB a x b)], fun _ => rfl, orcOf_eq (enc := fun p : Int × Int × Int => [I p.1, I p.2.1, I p.2.2]) (x := (a, x, b)) trivial (fun y h => by simpa [I, Prod.ext_iff] using h), rfl, rfl, fun _ _ => rfl⟩

theorem and_place (n : Int) : IntKind.i64.wrap ↑((n % 2 ^ IntKind.i64.bits).toNat &&& 65535 % 2 ^ IntKind.i64.bits) = place n := by
  have e : 65535 % 2 ^ IntKind.i64.bits = 2 ^ 16 - 1 := by decide
  rw [e, Nat.and_two_pow_sub_one_eq_mod, wrap64]
  have h2 : (2 : Int) ^ IntKind.i64.bits = 18446744073709551616 := by decide
  rw [h2]
  unfold place
  have h1 : ((n % 18446744073709551616).toNat : Int) = n % 18446744073709551616 := Int.toNat_of_nonneg (Int.emod_nonneg _ (by decide))
  have h3 : (((n % 18446744073709551616).toNat % 2 ^ 16 : Nat) : Int) = n % 65536 := by
    rw [Int.natCast_emod, h1]; omega
  rw [h3]
  split <;> omega

theorem wrap_place (a b : Int) : place (IntKind.i64.wrap (b - a)) = far a b := by
  rw [wrap64]; unfold place far; split <;> omega

theorem arc_Place : Pure Try.prog 66 place_F := by
  refine con (T := tbl []) (tbl_ok (by simp)) rfl rfl fun n _ => ⟨rfl, ?_⟩
  simp [cf66, -getElem?_pos]
  exact and_place n
noncomputable abbrev arc_Place_F := place_F
noncomputable def TP : Tbl := tbl [(66, arc_Place_F)]
theorem TP_ok : TblOK Try.prog TP := tbl_ok (by
  simp only [List.mem_cons, List.not_mem_nil, or_false]
  rintro p (rfl)
  · exact arc_Place)
instance : Has TP 66 arc_Place_F := ⟨rfl⟩

theorem arc_Far : Pure Try.prog 47 far_F := by
  refine con TP_ok rfl rfl fun p _ => ⟨rfl, ?_⟩
  simp [cf47, -getElem?_pos, wrap_place]
noncomputable abbrev arc_Far_F := far_F
noncomputable def TF : Tbl := tbl [(66, arc_Place_F), (47, arc_Far_F)]
theorem TF_ok : TblOK Try.prog TF := tbl_ok (by
  simp only [List.mem_cons, List.not_mem_nil, or_false]
  rintro p (rfl | rfl)
  · exact arc_Place
  · exact arc_Far)
instance : Has TF 66 arc_Place_F := ⟨rfl⟩
instance : Has TF 47 arc_Far_F := ⟨rfl⟩

theorem arc_In : Pure Try.prog 71 in_F := by
  refine con TF_ok rfl rfl fun ⟨a, x, b⟩ _ => ⟨rfl, ?_⟩
  simp [cf71, -getElem?_pos, inB]
  all_goals (try (first | refine WLV_splitN (fun hs => ?_) (fun hs => ?_) | refine WLC_splitN (fun hs => ?_) (fun hs => ?_) | refine WLB_splitN (fun hs => ?_) (fun hs => ?_) | refine WLPV_splitN (fun hs => ?_) (fun hs => ?_) | refine WLPC_splitN (fun hs => ?_) (fun hs => ?_) | refine WLPV_split (fun hs => ?_) (fun hs => ?_) | refine WLPC_split (fun hs => ?_) (fun hs => ?_) | refine WLV_split (fun hs => ?_) (fun hs => ?_) | refine WLC_split (fun hs => ?_) (fun hs => ?_) | refine WLB_split (fun hs => ?_) (fun hs => ?_)))
  all_goals (try (have hs' := hs; simp at hs'))
  all_goals (try simp [*, -getElem?_pos])
  all_goals (try (first | refine WLV_splitN (fun hs => ?_) (fun hs => ?_) | refine WLC_splitN (fun hs => ?_) (fun hs => ?_) | refine WLB_splitN (fun hs => ?_) (fun hs => ?_) | refine WLPV_splitN (fun hs => ?_) (fun hs => ?_) | refine WLPC_splitN (fun hs => ?_) (fun hs => ?_) | refine WLPV_split (fun hs => ?_) (fun hs => ?_) | refine WLPC_split (fun hs => ?_) (fun hs => ?_) | refine WLV_split (fun hs => ?_) (fun hs => ?_) | refine WLC_split (fun hs => ?_) (fun hs => ?_) | refine WLB_split (fun hs => ?_) (fun hs => ?_)))
  all_goals (try (have hs' := hs; simp at hs'))
  all_goals (try simp [*, -getElem?_pos])
noncomputable abbrev arc_In_F := in_F
noncomputable def TI : Tbl := tbl [(66, arc_Place_F), (47, arc_Far_F), (71, arc_In_F)]
theorem TI_ok : TblOK Try.prog TI := tbl_ok (by
  simp only [List.mem_cons, List.not_mem_nil, or_false]
  rintro p (rfl | rfl | rfl)
  · exact arc_Place
  · exact arc_Far
  · exact arc_In)
instance : Has TI 66 arc_Place_F := ⟨rfl⟩
instance : Has TI 47 arc_Far_F := ⟨rfl⟩
instance : Has TI 71 arc_In_F := ⟨rfl⟩

theorem arc_UpTo : Pure Try.prog 48 upTo_F := by
  refine con TI_ok rfl rfl fun ⟨a, x, b⟩ _ => ⟨rfl, ?_⟩
  simp [cf48, -getElem?_pos, upToB]
  all_goals (try (first | refine WLV_splitN (fun hs => ?_) (fun hs => ?_) | refine WLC_splitN (fun hs => ?_) (fun hs => ?_) | refine WLB_splitN (fun hs => ?_) (fun hs => ?_) | refine WLPV_splitN (fun hs => ?_) (fun hs => ?_) | refine WLPC_splitN (fun hs => ?_) (fun hs => ?_) | refine WLPV_split (fun hs => ?_) (fun hs => ?_) | refine WLPC_split (fun hs => ?_) (fun hs => ?_) | refine WLV_split (fun hs => ?_) (fun hs => ?_) | refine WLC_split (fun hs => ?_) (fun hs => ?_) | refine WLB_split (fun hs => ?_) (fun hs => ?_)))
  all_goals (try (have hs' := hs; simp at hs'))
  all_goals (try simp [*, -getElem?_pos])
noncomputable abbrev arc_UpTo_F := upTo_F

theorem ref_place (n : Int) : (IntKind.i64.wrap (n.tmod 65536 + 65536)).tmod 65536 = place n := by
  have h1 := Int.tmod_lt_of_pos n (show (0 : Int) < 65536 by decide)
  have h2 : -65536 < n.tmod 65536 := by
    rcases Int.le_total 0 n with h | h
    · have := Int.tmod_nonneg 65536 h; omega
    · have h3 : (-n).tmod 65536 < 65536 := Int.tmod_lt_of_pos _ (by decide)
      rw [Int.neg_tmod] at h3; omega
  have h3 : IntKind.i64.wrap (n.tmod 65536 + 65536) = n.tmod 65536 + 65536 := by rw [wrap64]; split <;> omega
  rw [h3, Int.tmod_eq_emod_of_nonneg (by omega)]
  have h4 : n.tmod 65536 = n - 65536 * n.tdiv 65536 := Int.tmod_def n 65536
  rw [h4]; unfold place; omega
theorem garlandref03_Place : Pure Try.prog 27 place_F := by
  refine con (T := tbl []) (tbl_ok (by simp)) rfl rfl fun n _ => ⟨rfl, ?_⟩
  simp [cf27, -getElem?_pos]
  exact ref_place n
noncomputable abbrev garlandref03_Place_F := place_F
noncomputable def RP : Tbl := tbl [(27, garlandref03_Place_F)]
theorem RP_ok : TblOK Try.prog RP := tbl_ok (by
  simp only [List.mem_cons, List.not_mem_nil, or_false]
  rintro p (rfl)
  · exact garlandref03_Place)
instance : Has RP 27 garlandref03_Place_F := ⟨rfl⟩

theorem garlandref03_Far : Pure Try.prog 26 far_F := by
  refine con RP_ok rfl rfl fun p _ => ⟨rfl, ?_⟩
  simp [cf26, -getElem?_pos]
  rw [wrap64]; unfold place far; split <;> omega
noncomputable abbrev garlandref03_Far_F := far_F
noncomputable def RF : Tbl := tbl [(27, garlandref03_Place_F), (26, garlandref03_Far_F)]
theorem RF_ok : TblOK Try.prog RF := tbl_ok (by
  simp only [List.mem_cons, List.not_mem_nil, or_false]
  rintro p (rfl | rfl)
  · exact garlandref03_Place
  · exact garlandref03_Far)
instance : Has RF 27 garlandref03_Place_F := ⟨rfl⟩
instance : Has RF 26 garlandref03_Far_F := ⟨rfl⟩

theorem garlandref03_In : Pure Try.prog 51 in_F := by
  refine con RF_ok rfl rfl fun ⟨a, x, b⟩ _ => ⟨rfl, ?_⟩
  simp [cf51, -getElem?_pos]
  all_goals (try (first | refine WLV_splitN (fun hs => ?_) (fun hs => ?_) | refine WLC_splitN (fun hs => ?_) (fun hs => ?_) | refine WLB_splitN (fun hs => ?_) (fun hs => ?_) | refine WLPV_splitN (fun hs => ?_) (fun hs => ?_) | refine WLPC_splitN (fun hs => ?_) (fun hs => ?_) | refine WLPV_split (fun hs => ?_) (fun hs => ?_) | refine WLPC_split (fun hs => ?_) (fun hs => ?_) | refine WLV_split (fun hs => ?_) (fun hs => ?_) | refine WLC_split (fun hs => ?_) (fun hs => ?_) | refine WLB_split (fun hs => ?_) (fun hs => ?_)))
  all_goals (try (have hs' := hs; simp at hs'))
  all_goals (try simp [*, -getElem?_pos])
  all_goals (try (first | refine WLV_splitN (fun hs => ?_) (fun hs => ?_) | refine WLC_splitN (fun hs => ?_) (fun hs => ?_) | refine WLB_splitN (fun hs => ?_) (fun hs => ?_) | refine WLPV_splitN (fun hs => ?_) (fun hs => ?_) | refine WLPC_splitN (fun hs => ?_) (fun hs => ?_) | refine WLPV_split (fun hs => ?_) (fun hs => ?_) | refine WLPC_split (fun hs => ?_) (fun hs => ?_) | refine WLV_split (fun hs => ?_) (fun hs => ?_) | refine WLC_split (fun hs => ?_) (fun hs => ?_) | refine WLB_split (fun hs => ?_) (fun hs => ?_)))
  all_goals (try (have hs' := hs; simp at hs'))
  all_goals (try simp [*, -getElem?_pos])
  all_goals (try (first | refine WLV_splitN (fun hs => ?_) (fun hs => ?_) | refine WLC_splitN (fun hs => ?_) (fun hs => ?_) | refine WLB_splitN (fun hs => ?_) (fun hs => ?_) | refine WLPV_splitN (fun hs => ?_) (fun hs => ?_) | refine WLPC_splitN (fun hs => ?_) (fun hs => ?_) | refine WLPV_split (fun hs => ?_) (fun hs => ?_) | refine WLPC_split (fun hs => ?_) (fun hs => ?_) | refine WLV_split (fun hs => ?_) (fun hs => ?_) | refine WLC_split (fun hs => ?_) (fun hs => ?_) | refine WLB_split (fun hs => ?_) (fun hs => ?_)))
  all_goals (try (have hs' := hs; simp at hs'))
  all_goals (try simp [*, -getElem?_pos])
  all_goals (unfold inB; (try rw [Bool.eq_iff_iff]); (try simp [*, bne]); (try unfold place far at *); (try omega))
noncomputable abbrev garlandref03_In_F := in_F
noncomputable def RI : Tbl := tbl [(27, garlandref03_Place_F), (51, garlandref03_In_F)]
theorem RI_ok : TblOK Try.prog RI := tbl_ok (by
  simp only [List.mem_cons, List.not_mem_nil, or_false]
  rintro p (rfl | rfl)
  · exact garlandref03_Place
  · exact garlandref03_In)
instance : Has RI 27 garlandref03_Place_F := ⟨rfl⟩
instance : Has RI 51 garlandref03_In_F := ⟨rfl⟩

theorem garlandref03_UpTo : Pure Try.prog 50 upTo_F := by
  refine con RI_ok rfl rfl fun ⟨a, x, b⟩ _ => ⟨rfl, ?_⟩
  simp [cf50, -getElem?_pos]
  all_goals (try (first | refine WLV_splitN (fun hs => ?_) (fun hs => ?_) | refine WLC_splitN (fun hs => ?_) (fun hs => ?_) | refine WLB_splitN (fun hs => ?_) (fun hs => ?_) | refine WLPV_splitN (fun hs => ?_) (fun hs => ?_) | refine WLPC_splitN (fun hs => ?_) (fun hs => ?_) | refine WLPV_split (fun hs => ?_) (fun hs => ?_) | refine WLPC_split (fun hs => ?_) (fun hs => ?_) | refine WLV_split (fun hs => ?_) (fun hs => ?_) | refine WLC_split (fun hs => ?_) (fun hs => ?_) | refine WLB_split (fun hs => ?_) (fun hs => ?_)))
  all_goals (try (have hs' := hs; simp at hs'))
  all_goals (try simp [*, -getElem?_pos])
  all_goals (try (first | refine WLV_splitN (fun hs => ?_) (fun hs => ?_) | refine WLC_splitN (fun hs => ?_) (fun hs => ?_) | refine WLB_splitN (fun hs => ?_) (fun hs => ?_) | refine WLPV_splitN (fun hs => ?_) (fun hs => ?_) | refine WLPC_splitN (fun hs => ?_) (fun hs => ?_) | refine WLPV_split (fun hs => ?_) (fun hs => ?_) | refine WLPC_split (fun hs => ?_) (fun hs => ?_) | refine WLV_split (fun hs => ?_) (fun hs => ?_) | refine WLC_split (fun hs => ?_) (fun hs => ?_) | refine WLB_split (fun hs => ?_) (fun hs => ?_)))
  all_goals (try (have hs' := hs; simp at hs'))
  all_goals (try simp [*, -getElem?_pos])
  all_goals (try (first | refine WLV_splitN (fun hs => ?_) (fun hs => ?_) | refine WLC_splitN (fun hs => ?_) (fun hs => ?_) | refine WLB_splitN (fun hs => ?_) (fun hs => ?_) | refine WLPV_splitN (fun hs => ?_) (fun hs => ?_) | refine WLPC_splitN (fun hs => ?_) (fun hs => ?_) | refine WLPV_split (fun hs => ?_) (fun hs => ?_) | refine WLPC_split (fun hs => ?_) (fun hs => ?_) | refine WLV_split (fun hs => ?_) (fun hs => ?_) | refine WLC_split (fun hs => ?_) (fun hs => ?_) | refine WLB_split (fun hs => ?_) (fun hs => ?_)))
  all_goals (try (have hs' := hs; simp at hs'))
  all_goals (try simp [*, -getElem?_pos])
  all_goals (unfold upToB; (try rw [Bool.eq_iff_iff]); (try simp [*, bne]); (try unfold place far at *); (try omega))
noncomputable abbrev garlandref03_UpTo_F := upTo_F
end Go.Proofs.Ytbeocehhclfbiaa.Lite
namespace Go.Proofs.Ytbeocehhclfbiaa.Lite
open Go
attribute [local simp] WL_of WL_nil WL_blk WL_skip WL_label WL_exit WL_goto WL_seq WL_block WL_cond WL_reg WL_ret WJ_nil WJ_ex WJ_gt WJ_rt WJ_exb WJ_gtb WJ_rtb WLO_nil WLO_call WO_mv WO_pick WO_new WO_box WO_ld WO_ldn WO_st WO_off WO_ixa WO_ixs WO_fld WO_fldn WO_ixv WO_ixvn WO_ixb WO_bin WO_eqb WO_isn WO_eqs WO_not WO_conv WO_mkf WO_bld WO_bls WO_sla WO_sls WO_sl0 WO_len WO_app WO_mnx WO_ext WO_nilc wants_none wants_some wantv_b wantv_t WLV_true WLV_false WLC_false WLB_true WLB_false evX_t evX_c evXs_nil evXs_cons look_put look_putN look_cons look_arg0 look_arg stepK binOpA intOp strOp evRes oneOf outs gc toDV AV.dat? I Bo av_s List.map List.append_nil getO putO AV.cellsOf bne WL_dreg WLP_nil WLP_call WP_mv WP_pick WP_new WP_box WP_ld WP_ldn WP_off WP_ixa WP_ixs WP_fld WP_fldn WP_ixv WP_ixvn WP_ixb WP_bin WP_eqb WP_isn WP_eqs WP_not WP_conv WP_mkf WP_bld WP_bls WP_sla WP_sls WP_sl0 WP_len WP_app WP_mnx WP_ext WP_nilc WLPV_true WLPV_false WLPC_false WLC_tells WLPC_tells padH onNm onEx List.getElem?_cons_zero List.getElem?_cons_succ List.getElem?_nil restrict AV.lows lay AV.isCell lowObj AObj.lows WJ_nm AV.lows.go WL_scope onGt_rt onGt_nm onGt_ex WL_sreg WP_st preSt eraseB List.set_cons_zero List.set_cons_succ

def isPlace (n : Int) : Bool := decide (0 ≤ n) && decide (n < 65536)
noncomputable def isPlace_F := orcOf (fun n : Int => [I n]) (fun _ => True) (fun n => [Bo (isPlace n)])
instance (n : Int) : Tells isPlace_F [.d (.int .i64 n)] (.d (.bool (isPlace n))) :=
  ⟨_, [Bo (isPlace n)], fun _ => rfl, orcOf_eq (enc := fun n : Int => [I n]) trivial (fun y h => by simpa [I] using h), rfl, rfl, fun _ _ => rfl⟩

theorem list_place : Pure Try.prog 99 isPlace_F := by
  refine con (T := tbl []) (tbl_ok (by simp)) rfl rfl fun n _ => ⟨rfl, ?_⟩
  simp [cf99, -getElem?_pos, isPlace]
  all_goals (try (first | refine WLV_splitN (fun hs => ?_) (fun hs => ?_) | refine WLC_splitN (fun hs => ?_) (fun hs => ?_) | refine WLB_splitN (fun hs => ?_) (fun hs => ?_) | refine WLPV_splitN (fun hs => ?_) (fun hs => ?_) | refine WLPC_splitN (fun hs => ?_) (fun hs => ?_) | refine WLPV_split (fun hs => ?_) (fun hs => ?_) | refine WLPC_split (fun hs => ?_) (fun hs => ?_) | refine WLV_split (fun hs => ?_) (fun hs => ?_) | refine WLC_split (fun hs => ?_) (fun hs => ?_) | refine WLB_split (fun hs => ?_) (fun hs => ?_)))
  all_goals (try (have hs' := hs; simp at hs'))
  all_goals (try simp [*, -getElem?_pos])
noncomputable abbrev list_place_F := isPlace_F
theorem garlandref12_place : Pure Try.prog 83 isPlace_F := by
  refine con (T := tbl []) (tbl_ok (by simp)) rfl rfl fun n _ => ⟨rfl, ?_⟩
  simp [cf83, -getElem?_pos, isPlace]
  all_goals (try (first | refine WLV_splitN (fun hs => ?_) (fun hs => ?_) | refine WLC_splitN (fun hs => ?_) (fun hs => ?_) | refine WLB_splitN (fun hs => ?_) (fun hs => ?_) | refine WLPV_splitN (fun hs => ?_) (fun hs => ?_) | refine WLPC_splitN (fun hs => ?_) (fun hs => ?_) | refine WLPV_split (fun hs => ?_) (fun hs => ?_) | refine WLPC_split (fun hs => ?_) (fun hs => ?_) | refine WLV_split (fun hs => ?_) (fun hs => ?_) | refine WLC_split (fun hs => ?_) (fun hs => ?_) | refine WLB_split (fun hs => ?_) (fun hs => ?_)))
  all_goals (try (have hs' := hs; simp at hs'))
  all_goals (try simp [*, -getElem?_pos])
noncomputable abbrev garlandref12_place_F := isPlace_F
theorem garlandref13_place : Pure Try.prog 58 isPlace_F := by
  refine con (T := tbl []) (tbl_ok (by simp)) rfl rfl fun n _ => ⟨rfl, ?_⟩
  simp [cf58, -getElem?_pos, isPlace]
  all_goals (try (first | refine WLV_splitN (fun hs => ?_) (fun hs => ?_) | refine WLC_splitN (fun hs => ?_) (fun hs => ?_) | refine WLB_splitN (fun hs => ?_) (fun hs => ?_) | refine WLPV_splitN (fun hs => ?_) (fun hs => ?_) | refine WLPC_splitN (fun hs => ?_) (fun hs => ?_) | refine WLPV_split (fun hs => ?_) (fun hs => ?_) | refine WLPC_split (fun hs => ?_) (fun hs => ?_) | refine WLV_split (fun hs => ?_) (fun hs => ?_) | refine WLC_split (fun hs => ?_) (fun hs => ?_) | refine WLB_split (fun hs => ?_) (fun hs => ?_)))
  all_goals (try (have hs' := hs; simp at hs'))
  all_goals (try simp [*, -getElem?_pos])
noncomputable abbrev garlandref13_place_F := isPlace_F
theorem garlandref06_place : Pure Try.prog 62 isPlace_F := by
  refine con (T := tbl []) (tbl_ok (by simp)) rfl rfl fun n _ => ⟨rfl, ?_⟩
  simp [cf62, -getElem?_pos, isPlace]
  all_goals (try (first | refine WLV_splitN (fun hs => ?_) (fun hs => ?_) | refine WLC_splitN (fun hs => ?_) (fun hs => ?_) | refine WLB_splitN (fun hs => ?_) (fun hs => ?_) | refine WLPV_splitN (fun hs => ?_) (fun hs => ?_) | refine WLPC_splitN (fun hs => ?_) (fun hs => ?_) | refine WLPV_split (fun hs => ?_) (fun hs => ?_) | refine WLPC_split (fun hs => ?_) (fun hs => ?_) | refine WLV_split (fun hs => ?_) (fun hs => ?_) | refine WLC_split (fun hs => ?_) (fun hs => ?_) | refine WLB_split (fun hs => ?_) (fun hs => ?_)))
  all_goals (try (have hs' := hs; simp at hs'))
  all_goals (try simp [*, -getElem?_pos])
noncomputable abbrev garlandref06_place_F := isPlace_F
theorem view_place : Pure Try.prog 74 isPlace_F := by
  refine con (T := tbl []) (tbl_ok (by simp)) rfl rfl fun n _ => ⟨rfl, ?_⟩
  simp [cf74, -getElem?_pos, isPlace]
  all_goals (try (first | refine WLV_splitN (fun hs => ?_) (fun hs => ?_) | refine WLC_splitN (fun hs => ?_) (fun hs => ?_) | refine WLB_splitN (fun hs => ?_) (fun hs => ?_) | refine WLPV_splitN (fun hs => ?_) (fun hs => ?_) | refine WLPC_splitN (fun hs => ?_) (fun hs => ?_) | refine WLPV_split (fun hs => ?_) (fun hs => ?_) | refine WLPC_split (fun hs => ?_) (fun hs => ?_) | refine WLV_split (fun hs => ?_) (fun hs => ?_) | refine WLC_split (fun hs => ?_) (fun hs => ?_) | refine WLB_split (fun hs => ?_) (fun hs => ?_)))
  all_goals (try (have hs' := hs; simp at hs'))
  all_goals (try simp [*, -getElem?_pos])
noncomputable abbrev view_place_F := isPlace_F
theorem msg_place : Pure Try.prog 76 isPlace_F := by
  refine con (T := tbl []) (tbl_ok (by simp)) rfl rfl fun n _ => ⟨rfl, ?_⟩
  simp [cf76, -getElem?_pos, isPlace]
  all_goals (try (first | refine WLV_splitN (fun hs => ?_) (fun hs => ?_) | refine WLC_splitN (fun hs => ?_) (fun hs => ?_) | refine WLB_splitN (fun hs => ?_) (fun hs => ?_) | refine WLPV_splitN (fun hs => ?_) (fun hs => ?_) | refine WLPC_splitN (fun hs => ?_) (fun hs => ?_) | refine WLPV_split (fun hs => ?_) (fun hs => ?_) | refine WLPC_split (fun hs => ?_) (fun hs => ?_) | refine WLV_split (fun hs => ?_) (fun hs => ?_) | refine WLC_split (fun hs => ?_) (fun hs => ?_) | refine WLB_split (fun hs => ?_) (fun hs => ?_)))
  all_goals (try (have hs' := hs; simp at hs'))
  all_goals (try simp [*, -getElem?_pos])
noncomputable abbrev msg_place_F := isPlace_F

def behind (x a n : Int) : Bool := isPlace n && decide (far x a < far x n)
noncomputable def behind_F := orcOf (fun p : Int × Int × Int => [I p.1, I p.2.1, I p.2.2]) (fun _ => True) (fun p => [Bo (behind p.1 p.2.1 p.2.2)])
instance (a x b : Int) : Tells behind_F [.d (.int .i64 a), .d (.int .i64 x), .d (.int .i64 b)] (.d (.bool (behind a x b))) :=
  ⟨_, [Bo (behind a x b)], fun _ => rfl, orcOf_eq (enc := fun p : Int × Int × Int => [I p.1, I p.2.1, I p.2.2]) (x := (a, x, b)) trivial (fun y h => by simpa [I, Prod.ext_iff] using h), rfl, rfl, fun _ _ => rfl⟩
noncomputable def TB : Tbl := tbl [(99, list_place_F), (47, arc_Far_F)]
theorem TB_ok : TblOK Try.prog TB := tbl_ok (by
  simp only [List.mem_cons, List.not_mem_nil, or_false]
  rintro p (rfl | rfl)
  · exact list_place
  · exact arc_Far)
instance : Has TB 99 list_place_F := ⟨rfl⟩
instance : Has TB 47 arc_Far_F := ⟨rfl⟩

theorem list_behind : Pure Try.prog 93 behind_F := by
  refine con TB_ok rfl rfl fun ⟨x, a, n⟩ _ => ⟨rfl, ?_⟩
  simp [cf93, -getElem?_pos, behind]
  all_goals (try (first | refine WLV_splitN (fun hs => ?_) (fun hs => ?_) | refine WLC_splitN (fun hs => ?_) (fun hs => ?_) | refine WLB_splitN (fun hs => ?_) (fun hs => ?_) | refine WLPV_splitN (fun hs => ?_) (fun hs => ?_) | refine WLPC_splitN (fun hs => ?_) (fun hs => ?_) | refine WLPV_split (fun hs => ?_) (fun hs => ?_) | refine WLPC_split (fun hs => ?_) (fun hs => ?_) | refine WLV_split (fun hs => ?_) (fun hs => ?_) | refine WLC_split (fun hs => ?_) (fun hs => ?_) | refine WLB_split (fun hs => ?_) (fun hs => ?_)))
  all_goals (try (have hs' := hs; simp at hs'))
  all_goals (try simp [*, -getElem?_pos])
noncomputable abbrev list_behind_F := behind_F

def farther (x a b : Int) : Bool := decide (far x a < far x b)
noncomputable def farther_F := orcOf (fun p : Int × Int × Int => [I p.1, I p.2.1, I p.2.2]) (fun _ => True) (fun p => [Bo (farther p.1 p.2.1 p.2.2)])
instance (a x b : Int) : Tells farther_F [.d (.int .i64 a), .d (.int .i64 x), .d (.int .i64 b)] (.d (.bool (farther a x b))) :=
  ⟨_, [Bo (farther a x b)], fun _ => rfl, orcOf_eq (enc := fun p : Int × Int × Int => [I p.1, I p.2.1, I p.2.2]) (x := (a, x, b)) trivial (fun y h => by simpa [I, Prod.ext_iff] using h), rfl, rfl, fun _ _ => rfl⟩
noncomputable def TRF : Tbl := tbl [(26, garlandref03_Far_F)]
theorem TRF_ok : TblOK Try.prog TRF := tbl_ok (by
  simp only [List.mem_cons, List.not_mem_nil, or_false]
  rintro p (rfl)
  · exact garlandref03_Far)
instance : Has TRF 26 garlandref03_Far_F := ⟨rfl⟩

theorem garlandref12_farther : Pure Try.prog 84 farther_F := by
  refine con TRF_ok rfl rfl fun ⟨x, a, n⟩ _ => ⟨rfl, ?_⟩
  simp [cf84, -getElem?_pos, farther]
noncomputable abbrev garlandref12_farther_F := farther_F

/-! ### slices of ints -/
def rowsI (l : List Int) : List (List Dat) := l.map fun n => [.int .i64 n]
theorem rowsI_length (l : List Int) : (rowsI l).length = l.length := by simp [rowsI]
theorem rowsI_get (l : List Int) (i : Nat) : (rowsI l)[i]? = (l[i]?).map fun n => [.int .i64 n] := by simp [rowsI]
theorem rowsI_ok (l : List Int) : rowsOk 1 (rowsI l) = true := by simp [rowsI, rowsOk]
theorem rowsI_inj {l k : List Int} (h : rowsI l = rowsI k) : l = k := by
  induction l generalizing k with
  | nil => cases k with | nil => rfl | cons b k => simp [rowsI] at h
  | cons a l ih =>
    cases k with
    | nil => simp [rowsI] at h
    | cons b k =>
      simp only [rowsI, List.map_cons, List.cons.injEq, Dat.int.injEq, true_and, and_true] at h
      obtain ⟨rfl, h⟩ := h
      rw [ih h]
abbrev vsI (l : List Int) : AV := .d (.sl (rowsI l))
def SI (l : List Int) : DV := .s (.sl (rowsI l))

def chain (x : Int) : Int → List Int → Bool
  | _, [] => true
  | a, n :: l => behind x a n && chain x n l
def listRight (x : Int) (l : List Int) : Bool := chain x x l && decide (l.length ≤ 3)
noncomputable def listRight_F := orcOf (fun p : Int × List Int => [I p.1, SI p.2]) (fun p => p.2.length < 9223372036854775808) (fun p => [Bo (listRight p.1 p.2)])

noncomputable def TLR : Tbl := tbl [(83, garlandref12_place_F), (27, garlandref03_Place_F), (84, garlandref12_farther_F)]
theorem TLR_ok : TblOK Try.prog TLR := tbl_ok (by
  simp only [List.mem_cons, List.not_mem_nil, or_false]
  rintro p (rfl | rfl | rfl)
  · exact garlandref12_place
  · exact garlandref03_Place
  · exact garlandref12_farther)
instance : Has TLR 83 garlandref12_place_F := ⟨rfl⟩
instance : Has TLR 27 garlandref03_Place_F := ⟨rfl⟩
instance : Has TLR 84 garlandref12_farther_F := ⟨rfl⟩

def okAt (x : Int) (l : List Int) (j : Nat) (n : Int) : Bool := isPlace n && !(n == place x) && (j == 0 || farther x (l.getD (j - 1) 0) n)
theorem wrapN (n : Nat) (h : n < 9223372036854775808) : IntKind.i64.wrap (n : Int) = n := by rw [wrap64]; split <;> omega
theorem wrapN1 (n : Nat) (h : n < 9223372036854775807) : IntKind.i64.wrap ((n : Int) + 1) = ((n + 1 : Nat) : Int) := by rw [wrap64]; split <;> omega
def L12 : CCode := (.loop [0, 1, 5] (.seq (.seq (.reg (⟨(some 6), .mv (.t 5), none⟩ ::
    ⟨(some 7), .mv (.t 1), none⟩ ::
    ⟨(some 8), .len false (.t 7), none⟩ ::
    ⟨(some 9), .bin .lss (.t 6) (.t 8), none⟩ ::
    []))
  (.cond (.t 9) .skip (.exit 0)))
  (.seq (.block 1 (.seq (.dreg (⟨(some 12), .mv (.t 1), none⟩ ::
    ⟨(some 13), .mv (.t 5), none⟩ ::
    ⟨(some 14), .ixs 1 (.t 12) (.t 13), none⟩ ::
    ⟨(some 15), .ld (.t 14), none⟩ ::
    ⟨(some 16), .call (.c (.fn 83 [])) [(.t 15)], none⟩ ::
    ⟨(some 17), .not (.t 16), none⟩ ::
    ⟨(some 18), .mv (.t 17), none⟩ ::
    ⟨(some 19), .mv (.t 1), (some (18, false))⟩ ::
    ⟨(some 20), .mv (.t 5), (some (18, false))⟩ ::
    ⟨(some 21), .ixs 1 (.t 19) (.t 20), (some (18, false))⟩ ::
    ⟨(some 22), .ld (.t 21), (some (18, false))⟩ ::
    ⟨(some 23), .mv (.t 0), (some (18, false))⟩ ::
    ⟨(some 24), .call (.c (.fn 27 [])) [(.t 23)], (some (18, false))⟩ ::
    ⟨(some 25), .bin .eql (.t 22) (.t 24), (some (18, false))⟩ ::
    ⟨(some 26), .pick (.t 18) (.c (.d (.bool true))) (.t 25), none⟩ ::
    ⟨(some 27), .mv (.t 26), none⟩ ::
    ⟨(some 28), .mv (.t 5), (some (27, false))⟩ ::
    ⟨(some 29), .bin .gtr (.t 28) (.c (.d (.int .i64 0))), (some (27, false))⟩ ::
    ⟨(some 30), .mv (.t 29), (some (27, false))⟩ ::
    ⟨(some 31), .mv (.t 0), (some (30, true))⟩ ::
    ⟨(some 32), .mv (.t 1), (some (30, true))⟩ ::
    ⟨(some 33), .mv (.t 5), (some (30, true))⟩ ::
    ⟨(some 34), .bin .sub (.t 33) (.c (.d (.int .i64 1))), (some (30, true))⟩ ::
    ⟨(some 35), .ixs 1 (.t 32) (.t 34), (some (30, true))⟩ ::
    ⟨(some 36), .ld (.t 35), (some (30, true))⟩ ::
    ⟨(some 37), .mv (.t 1), (some (30, true))⟩ ::
    ⟨(some 38), .mv (.t 5), (some (30, true))⟩ ::
    ⟨(some 39), .ixs 1 (.t 37) (.t 38), (some (30, true))⟩ ::
    ⟨(some 40), .ld (.t 39), (some (30, true))⟩ ::
    ⟨(some 41), .call (.c (.fn 84 [])) [(.t 31), (.t 36), (.t 40)], (some (30, true))⟩ ::
    ⟨(some 42), .not (.t 41), (some (30, true))⟩ ::
    ⟨(some 43), .pick (.t 30) (.t 42) (.c (.d (.bool false))), (some (27, false))⟩ ::
    ⟨(some 44), .pick (.t 27) (.c (.d (.bool true))) (.t 43), none⟩ ::
    []) ([]))
  (.cond (.t 44) (.seq (.reg (⟨(some 4), .mv (.c (.d (.bool false))), none⟩ ::
    []))
  .ret) .skip)))
  (.reg (⟨(some 10), .mv (.t 5), none⟩ ::
    ⟨(some 11), .bin .add (.t 10) (.c (.d (.int .i64 1))), none⟩ ::
    ⟨(some 5), .mv (.t 11), none⟩ ::
    [])))))
theorem L12_eq : L12 = .loop [0, 1, 5] (.seq (.seq (.reg (⟨(some 6), .mv (.t 5), none⟩ ::
    ⟨(some 7), .mv (.t 1), none⟩ ::
    ⟨(some 8), .len false (.t 7), none⟩ ::
    ⟨(some 9), .bin .lss (.t 6) (.t 8), none⟩ ::
    []))
  (.cond (.t 9) .skip (.exit 0)))
  (.seq (.block 1 (.seq (.dreg (⟨(some 12), .mv (.t 1), none⟩ ::
    ⟨(some 13), .mv (.t 5), none⟩ ::
    ⟨(some 14), .ixs 1 (.t 12) (.t 13), none⟩ ::
    ⟨(some 15), .ld (.t 14), none⟩ ::
    ⟨(some 16), .call (.c (.fn 83 [])) [(.t 15)], none⟩ ::
    ⟨(some 17), .not (.t 16), none⟩ ::
    ⟨(some 18), .mv (.t 17), none⟩ ::
    ⟨(some 19), .mv (.t 1), (some (18, false))⟩ ::
    ⟨(some 20), .mv (.t 5), (some (18, false))⟩ ::
    ⟨(some 21), .ixs 1 (.t 19) (.t 20), (some (18, false))⟩ ::
    ⟨(some 22), .ld (.t 21), (some (18, false))⟩ ::
    ⟨(some 23), .mv (.t 0), (some (18, false))⟩ ::
    ⟨(some 24), .call (.c (.fn 27 [])) [(.t 23)], (some (18, false))⟩ ::
    ⟨(some 25), .bin .eql (.t 22) (.t 24), (some (18, false))⟩ ::
    ⟨(some 26), .pick (.t 18) (.c (.d (.bool true))) (.t 25), none⟩ ::
    ⟨(some 27), .mv (.t 26), none⟩ ::
    ⟨(some 28), .mv (.t 5), (some (27, false))⟩ ::
    ⟨(some 29), .bin .gtr (.t 28) (.c (.d (.int .i64 0))), (some (27, false))⟩ ::
    ⟨(some 30), .mv (.t 29), (some (27, false))⟩ ::
    ⟨(some 31), .mv (.t 0), (some (30, true))⟩ ::
    ⟨(some 32), .mv (.t 1), (some (30, true))⟩ ::
    ⟨(some 33), .mv (.t 5), (some (30, true))⟩ ::
    ⟨(some 34), .bin .sub (.t 33) (.c (.d (.int .i64 1))), (some (30, true))⟩ ::
    ⟨(some 35), .ixs 1 (.t 32) (.t 34), (some (30, true))⟩ ::
    ⟨(some 36), .ld (.t 35), (some (30, true))⟩ ::
    ⟨(some 37), .mv (.t 1), (some (30, true))⟩ ::
    ⟨(some 38), .mv (.t 5), (some (30, true))⟩ ::
    ⟨(some 39), .ixs 1 (.t 37) (.t 38), (some (30, true))⟩ ::
    ⟨(some 40), .ld (.t 39), (some (30, true))⟩ ::
    ⟨(some 41), .call (.c (.fn 84 [])) [(.t 31), (.t 36), (.t 40)], (some (30, true))⟩ ::
    ⟨(some 42), .not (.t 41), (some (30, true))⟩ ::
    ⟨(some 43), .pick (.t 30) (.t 42) (.c (.d (.bool false))), (some (27, false))⟩ ::
    ⟨(some 44), .pick (.t 27) (.c (.d (.bool true))) (.t 43), none⟩ ::
    []) ([]))
  (.cond (.t 44) (.seq (.reg (⟨(some 4), .mv (.c (.d (.bool false))), none⟩ ::
    []))
  .ret) .skip)))
  (.reg (⟨(some 10), .mv (.t 5), none⟩ ::
    ⟨(some 11), .bin .add (.t 10) (.c (.d (.int .i64 1))), none⟩ ::
    ⟨(some 5), .mv (.t 11), none⟩ ::
    [])))) := rfl
theorem ref12_loop (x : Int) (l : List Int) (hl : l.length < 9223372036854775808) : ∀ (k i : Nat), l.length - i = k → i ≤ l.length → ∀ (env : Env), look env 0 = some (.d (.int .i64 x)) → look env 1 = some (vsI l) → look env 5 = some (.d (.int .i64 i)) →
    ∀ (Q : Ex → Env → St → Prop), ((∀ j n, i ≤ j → l[j]? = some n → okAt x l j n = true) → ∀ env', look env' 0 = some (.d (.int .i64 x)) → look env' 1 = some (vsI l) → Q (.ex 0) env' ⟨[], []⟩) →
      ((∃ j n, i ≤ j ∧ l[j]? = some n ∧ okAt x l j n = false) → ∀ env' h', look env' 4 = some (.d (.bool false)) → Q .rt env' ⟨h', []⟩) → W TLR ⟨[], 0⟩ L12 env ⟨[], []⟩ Q := by
  intro k
  induction k with
  | zero =>
    intro i hk hi env h0 h1 h5 Q hQ1 hQ2
    have hlt : ¬ i < l.length := by omega
    rw [L12_eq, W_loop]
    simp [-getElem?_pos, h0, h1, h5, stepK.lenA, rowsI_length, hlt]
    refine hQ1 (fun j n hj hn => absurd (List.getElem?_eq_some_iff.1 hn).1 (by omega)) _ ?_ ?_ <;> simp [-getElem?_pos, h0, h1]
  | succ k ih =>
    intro i hk hi env h0 h1 h5 Q hQ1 hQ2
    have hlt : i < l.length := by omega
    obtain ⟨n, hn⟩ : ∃ n, l[i]? = some n := ⟨_, List.getElem?_eq_getElem hlt⟩
    have bad : okAt x l i n = false → ∃ j n, i ≤ j ∧ l[j]? = some n ∧ okAt x l j n = false := fun h => ⟨i, n, Nat.le_refl _, hn, h⟩
    have hw := wrapN1 i (by omega)
    rw [L12_eq, W_loop]
    cases i with
    | zero =>
      simp [-getElem?_pos, h0, h1, h5, stepK.lenA, rowsI_length, rowsI_get, hn, hlt]
      all_goals (try (first | refine WLV_splitN (fun hs => ?_) (fun hs => ?_) | refine WLC_splitN (fun hs => ?_) (fun hs => ?_) | refine WLB_splitN (fun hs => ?_) (fun hs => ?_) | refine WLPV_splitN (fun hs => ?_) (fun hs => ?_) | refine WLPC_splitN (fun hs => ?_) (fun hs => ?_) | refine WLPV_split (fun hs => ?_) (fun hs => ?_) | refine WLPC_split (fun hs => ?_) (fun hs => ?_) | refine WLV_split (fun hs => ?_) (fun hs => ?_) | refine WLC_split (fun hs => ?_) (fun hs => ?_) | refine WLB_split (fun hs => ?_) (fun hs => ?_)))
      all_goals (try (have hs' := hs; simp at hs'))
      all_goals (try simp [*, -getElem?_pos, h0, h1, h5, rowsI_get, hn])
      all_goals (try (first | refine WLV_splitN (fun hs => ?_) (fun hs => ?_) | refine WLC_splitN (fun hs => ?_) (fun hs => ?_) | refine WLB_splitN (fun hs => ?_) (fun hs => ?_) | refine WLPV_splitN (fun hs => ?_) (fun hs => ?_) | refine WLPC_splitN (fun hs => ?_) (fun hs => ?_) | refine WLPV_split (fun hs => ?_) (fun hs => ?_) | refine WLPC_split (fun hs => ?_) (fun hs => ?_) | refine WLV_split (fun hs => ?_) (fun hs => ?_) | refine WLC_split (fun hs => ?_) (fun hs => ?_) | refine WLB_split (fun hs => ?_) (fun hs => ?_)))
      all_goals (try (have hs' := hs; simp at hs'))
      all_goals (try simp [*, -getElem?_pos, h0, h1, h5, rowsI_get, hn])
      all_goals (try (first | refine WLV_splitN (fun hs => ?_) (fun hs => ?_) | refine WLC_splitN (fun hs => ?_) (fun hs => ?_) | refine WLB_splitN (fun hs => ?_) (fun hs => ?_) | refine WLPV_splitN (fun hs => ?_) (fun hs => ?_) | refine WLPC_splitN (fun hs => ?_) (fun hs => ?_) | refine WLPV_split (fun hs => ?_) (fun hs => ?_) | refine WLPC_split (fun hs => ?_) (fun hs => ?_) | refine WLV_split (fun hs => ?_) (fun hs => ?_) | refine WLC_split (fun hs => ?_) (fun hs => ?_) | refine WLB_split (fun hs => ?_) (fun hs => ?_)))
      all_goals (try (have hs' := hs; simp at hs'))
      all_goals (try simp [*, -getElem?_pos, h0, h1, h5, rowsI_get, hn])
      all_goals first
        | (refine hQ2 (bad ?_) _ _ ?_ <;> simp [*, okAt, -getElem?_pos]; done)
        | (refine (WL_of (c := L12)).1 (ih 1 (by omega) (by omega) _ ?_ ?_ ?_ Q (fun hall => hQ1 fun j m hj hm => ?_) (fun ⟨j, m, hj, h⟩ => hQ2 ⟨j, m, by omega, h⟩))
           · simp [-getElem?_pos, h0]
           · simp [-getElem?_pos, h1]
           · simp [-getElem?_pos]; rfl
           · cases j with
             | zero => rw [hn] at hm; cases hm; simp [*, okAt]
             | succ j => exact hall _ m (by omega) hm)
    | succ j =>
      obtain ⟨m, hm⟩ : ∃ m, l[j]? = some m := ⟨_, List.getElem?_eq_getElem (by omega)⟩
      have hw1 := wrapN j (by omega)
      have hgd : l.getD j 0 = m := by rw [List.getD_eq_getElem?_getD, hm]; rfl
      have e1 : ((↑(j + 1) : Int) - 1) = (j : Int) := by omega
      have e2 : (0 : Int) < ↑(j + 1) := by omega
      simp [-getElem?_pos, h0, h1, h5, stepK.lenA, rowsI_length, rowsI_get, hn, hlt, -Int.natCast_add]
      all_goals (try (first | refine WLV_splitN (fun hs => ?_) (fun hs => ?_) | refine WLC_splitN (fun hs => ?_) (fun hs => ?_) | refine WLB_splitN (fun hs => ?_) (fun hs => ?_) | refine WLPV_splitN (fun hs => ?_) (fun hs => ?_) | refine WLPC_splitN (fun hs => ?_) (fun hs => ?_) | refine WLPV_split (fun hs => ?_) (fun hs => ?_) | refine WLPC_split (fun hs => ?_) (fun hs => ?_) | refine WLV_split (fun hs => ?_) (fun hs => ?_) | refine WLC_split (fun hs => ?_) (fun hs => ?_) | refine WLB_split (fun hs => ?_) (fun hs => ?_)))
      all_goals (try (have hs' := hs; simp at hs'))
      all_goals (try simp [*, -getElem?_pos, h0, h1, h5, rowsI_get, hn, -Int.natCast_add])
      all_goals (try (first | refine WLV_splitN (fun hs => ?_) (fun hs => ?_) | refine WLC_splitN (fun hs => ?_) (fun hs => ?_) | refine WLB_splitN (fun hs => ?_) (fun hs => ?_) | refine WLPV_splitN (fun hs => ?_) (fun hs => ?_) | refine WLPC_splitN (fun hs => ?_) (fun hs => ?_) | refine WLPV_split (fun hs => ?_) (fun hs => ?_) | refine WLPC_split (fun hs => ?_) (fun hs => ?_) | refine WLV_split (fun hs => ?_) (fun hs => ?_) | refine WLC_split (fun hs => ?_) (fun hs => ?_) | refine WLB_split (fun hs => ?_) (fun hs => ?_)))
      all_goals (try (have hs' := hs; simp at hs'))
      all_goals (try simp [*, -getElem?_pos, h0, h1, h5, rowsI_get, hn, -Int.natCast_add])
      all_goals (try (first | refine WLV_splitN (fun hs => ?_) (fun hs => ?_) | refine WLC_splitN (fun hs => ?_) (fun hs => ?_) | refine WLB_splitN (fun hs => ?_) (fun hs => ?_) | refine WLPV_splitN (fun hs => ?_) (fun hs => ?_) | refine WLPC_splitN (fun hs => ?_) (fun hs => ?_) | refine WLPV_split (fun hs => ?_) (fun hs => ?_) | refine WLPC_split (fun hs => ?_) (fun hs => ?_) | refine WLV_split (fun hs => ?_) (fun hs => ?_) | refine WLC_split (fun hs => ?_) (fun hs => ?_) | refine WLB_split (fun hs => ?_) (fun hs => ?_)))
      all_goals (try (have hs' := hs; simp at hs'))
      all_goals (try simp [*, -getElem?_pos, h0, h1, h5, rowsI_get, hn, -Int.natCast_add])
      all_goals (try (first | refine WLV_splitN (fun hs => ?_) (fun hs => ?_) | refine WLC_splitN (fun hs => ?_) (fun hs => ?_) | refine WLB_splitN (fun hs => ?_) (fun hs => ?_) | refine WLPV_splitN (fun hs => ?_) (fun hs => ?_) | refine WLPC_splitN (fun hs => ?_) (fun hs => ?_) | refine WLPV_split (fun hs => ?_) (fun hs => ?_) | refine WLPC_split (fun hs => ?_) (fun hs => ?_) | refine WLV_split (fun hs => ?_) (fun hs => ?_) | refine WLC_split (fun hs => ?_) (fun hs => ?_) | refine WLB_split (fun hs => ?_) (fun hs => ?_)))
      all_goals (try (have hs' := hs; simp at hs'))
      all_goals (try simp [*, -getElem?_pos, h0, h1, h5, rowsI_get, hn, -Int.natCast_add])
      all_goals first
        | (refine hQ2 (bad ?_) _ _ ?_ <;> simp [*, okAt, -getElem?_pos]; done)
        | (refine (WL_of (c := L12)).1 (ih (j + 1 + 1) (by omega) (by omega) _ ?_ ?_ ?_ Q (fun hall => hQ1 fun i m' hi hm' => ?_) (fun ⟨i, m', hi, h⟩ => hQ2 ⟨i, m', by omega, h⟩))
           · simp [-getElem?_pos, h0]
           · simp [-getElem?_pos, h1]
           · simp [-getElem?_pos, hw, -Int.natCast_add]
           · rcases Nat.lt_or_ge (j + 1) i with h | h
             · exact hall _ m' (by omega) hm'
             · have : i = j + 1 := by omega
               subst this
               rw [hn] at hm'; cases hm'; simp [*, okAt])

theorem behind_first (x n : Int) : behind x x n = (isPlace n && !(n == place x)) := by
  unfold behind isPlace place far
  rw [Bool.eq_iff_iff]; simp; omega
theorem behind_next (x a n : Int) : behind x a n = (isPlace n && !(n == place x) && farther x a n) := by
  unfold behind isPlace place farther far
  rw [Bool.eq_iff_iff]; simp; omega
theorem chain_iff (x : Int) : ∀ (l : List Int) (a : Int), chain x a l = true ↔ ∀ j n, l[j]? = some n → behind x (if j = 0 then a else l.getD (j - 1) 0) n = true
  | [], a => by simp [chain]
  | m :: l, a => by
    simp only [chain, Bool.and_eq_true, chain_iff x l m]
    constructor
    · rintro ⟨h1, h2⟩ j n hn
      cases j with
      | zero => simp at hn; subst hn; simpa using h1
      | succ j =>
        have := h2 j n (by simpa using hn)
        cases j with
        | zero => simpa using this
        | succ j => simpa using this
    · intro h
      refine ⟨by simpa using h 0 m rfl, fun j n hn => ?_⟩
      have := h (j + 1) n (by simpa using hn)
      cases j with
      | zero => simpa using this
      | succ j => simpa using this
theorem chain_ok (x : Int) (l : List Int) : chain x x l = true ↔ ∀ j n, l[j]? = some n → okAt x l j n = true := by
  rw [chain_iff]
  have : ∀ j n, behind x (if j = 0 then x else l.getD (j - 1) 0) n = okAt x l j n := by
    intro j n
    cases j with
    | zero => simp [okAt, behind_first]
    | succ j => simp [okAt, behind_next]
  simp only [this]

theorem garlandref12_Right : Pure Try.prog 59 listRight_F := by
  refine con TLR_ok rfl rfl fun ⟨x, l⟩ hl => ⟨rfl, ?_⟩
  simp [cf59, -getElem?_pos, SI]
  rw [WL_code]
  refine ref12_loop x l hl l.length 0 (by omega) (by omega) _ ?_ ?_ ?_ _ (fun hall env' h0 h1 => ?_) (fun hbad env' h' h4 => ?_)
  · simp [-getElem?_pos]
  · simp [-getElem?_pos, vsI]
  · simp [-getElem?_pos]
  · have := (chain_ok x l).2 fun j n hn => hall j n (Nat.zero_le _) hn
    simp [-getElem?_pos, h0, h1, stepK.lenA, rowsI_length, listRight, this]
    omega
  · have : chain x x l = false := by
      cases h : chain x x l with
      | false => rfl
      | true => obtain ⟨j, n, _, hn, hb⟩ := hbad; rw [(chain_ok x l).1 h j n hn] at hb; cases hb
    simp [-getElem?_pos, h4, listRight, this]
noncomputable abbrev garlandref12_Right_F := listRight_F

/-! ### list.Right: a range over a function -/
noncomputable def TLS : Tbl := tbl [(93, list_behind_F)]
theorem TLS_ok : TblOK Try.prog TLS := tbl_ok (by
  simp only [List.mem_cons, List.not_mem_nil, or_false]
  rintro p (rfl)
  · exact list_behind)
instance : Has TLS 93 list_behind_F := ⟨rfl⟩

def L98 : CCode := (.loop [0, 2, 6, 7, 8] (.seq (.reg (⟨(some 9), .bin .lss (.t 8) (.t 7), none⟩ ::
    []))
  (.seq (.cond (.t 9) .skip (.exit 0))
  (.seq (.block 1 (.seq (.reg (⟨(some 10), .ixs 1 (.t 6) (.t 8), none⟩ ::
    ⟨(some 11), .ld (.t 10), none⟩ ::
    ⟨(some 5), .mv (.t 11), none⟩ ::
    []))
  (.seq (.seq (.reg (⟨(some 12), .mv (.t 0), none⟩ ::
    ⟨(some 13), .ld (.t 2), none⟩ ::
    ⟨(some 14), .mv (.t 5), none⟩ ::
    ⟨(some 15), .call (.t 12) [(.t 13), (.t 14)], none⟩ ::
    ⟨(some 16), .not (.t 15), none⟩ ::
    []))
  (.cond (.t 16) .ret .skip))
  (.reg (⟨(some 17), .mv (.t 5), none⟩ ::
    ⟨none, .st 1 (.t 2) (.t 17), none⟩ ::
    [])))))
  (.reg (⟨(some 18), .bin .add (.t 8) (.c (.d (.int .i64 1))), none⟩ ::
    ⟨(some 8), .mv (.t 18), none⟩ ::
    []))))))
theorem L98_eq : L98 = .loop [0, 2, 6, 7, 8] (.seq (.reg (⟨(some 9), .bin .lss (.t 8) (.t 7), none⟩ ::
    []))
  (.seq (.cond (.t 9) .skip (.exit 0))
  (.seq (.block 1 (.seq (.reg (⟨(some 10), .ixs 1 (.t 6) (.t 8), none⟩ ::
    ⟨(some 11), .ld (.t 10), none⟩ ::
    ⟨(some 5), .mv (.t 11), none⟩ ::
    []))
  (.seq (.seq (.reg (⟨(some 12), .mv (.t 0), none⟩ ::
    ⟨(some 13), .ld (.t 2), none⟩ ::
    ⟨(some 14), .mv (.t 5), none⟩ ::
    ⟨(some 15), .call (.t 12) [(.t 13), (.t 14)], none⟩ ::
    ⟨(some 16), .not (.t 15), none⟩ ::
    []))
  (.cond (.t 16) .ret .skip))
  (.reg (⟨(some 17), .mv (.t 5), none⟩ ::
    ⟨none, .st 1 (.t 2) (.t 17), none⟩ ::
    [])))))
  (.reg (⟨(some 18), .bin .add (.t 8) (.c (.d (.int .i64 1))), none⟩ ::
    ⟨(some 8), .mv (.t 18), none⟩ ::
    []))))) := rfl
def recR (e0 : Env) : LRec := ⟨[10, 11], (.seq (.reg (⟨(some 5), .mv (.t 10), none⟩ ::
    []))
  (.reg (⟨(some 6), .mv (.t 11), none⟩ ::
    []))), (.block 1 (.seq (.reg (⟨(some 12), .ld (.t 2), none⟩ ::
    ⟨(some 13), .mv (.t 5), none⟩ ::
    ⟨(some 14), .mv (.t 6), none⟩ ::
    ⟨(some 15), .call (.c (.fn 93 [])) [(.t 12), (.t 13), (.t 14)], none⟩ ::
    ⟨(some 16), .not (.t 15), none⟩ ::
    []))
  (.cond (.t 16) (.seq (.reg (⟨none, .st 1 (.t 4) (.c (.d (.bool false))), none⟩ ::
    []))
  .ret) .skip))), e0⟩
theorem sides_loop (x : Int) (l : List Int) (hl : l.length < 9223372036854775808) (e0 : Env) (g2 : look e0 2 = some (.ptr 0 0)) (g4 : look e0 4 = some (.ptr 1 0)) : ∀ (k i : Nat), l.length - i = k → i ≤ l.length → ∀ (a : Int) (env : Env), look env 0 = some (.yld 0) → look env 2 = some (.ptr 2 0) → look env 6 = some (vsI l) →
    look env 7 = some (.d (.int .i64 l.length)) → look env 8 = some (.d (.int .i64 i)) → ∀ (Q : Ex → Env → St → Prop),
    (chain x a (l.drop i) = true → ∀ env' a', Q (.ex 0) env' ⟨[some (.cells [.d (.int .i64 x)]), some (.cells [.d (.bool false)]), some (.cells [.d (.int .i64 a')]), some (.cells [vsI l])], [none]⟩) →
    (chain x a (l.drop i) = false → ∀ env' a', Q .rt env' ⟨[some (.cells [.d (.int .i64 x)]), some (.cells [.d (.bool false)]), some (.cells [.d (.int .i64 a')]), some (.cells [vsI l])], [some .rt]⟩) →
    W TLS ⟨[some (recR e0)], 0⟩ L98 env ⟨[some (.cells [.d (.int .i64 x)]), some (.cells [.d (.bool false)]), some (.cells [.d (.int .i64 a)]), some (.cells [vsI l])], [none]⟩ Q := by
  intro k
  induction k with
  | zero =>
    intro i hk hi a env h0 h2 h6 h7 h8 Q hQ1 hQ2
    have hlt : ¬ i < l.length := by omega
    rw [L98_eq, W_loop]
    simp [-getElem?_pos, h0, h2, h6, h7, h8, hlt]
    exact hQ1 (by rw [List.drop_eq_nil_of_le (by omega)]; rfl) _ _
  | succ k ih =>
    intro i hk hi a env h0 h2 h6 h7 h8 Q hQ1 hQ2
    have hlt : i < l.length := by omega
    obtain ⟨n, hn⟩ : ∃ n, l[i]? = some n := ⟨_, List.getElem?_eq_getElem hlt⟩
    have hd : l.drop i = n :: l.drop (i + 1) := by rw [List.drop_eq_getElem_cons hlt]; congr 1; exact (List.getElem?_eq_some_iff.1 hn).2
    have hw := wrapN1 i (by omega)
    rw [L98_eq, W_loop]
    simp [-getElem?_pos, h0, h2, h6, h7, h8, hlt, rowsI_get, hn, -Int.natCast_add]
    refine WLC_yld (r := recR e0) rfl rfl rfl ?_
    simp [recR, bindPs, -getElem?_pos, g2, g4]
    all_goals (try (first | refine WLV_splitN (fun hs => ?_) (fun hs => ?_) | refine WLC_splitN (fun hs => ?_) (fun hs => ?_) | refine WLB_splitN (fun hs => ?_) (fun hs => ?_) | refine WLPV_splitN (fun hs => ?_) (fun hs => ?_) | refine WLPC_splitN (fun hs => ?_) (fun hs => ?_) | refine WLPV_split (fun hs => ?_) (fun hs => ?_) | refine WLPC_split (fun hs => ?_) (fun hs => ?_) | refine WLV_split (fun hs => ?_) (fun hs => ?_) | refine WLC_split (fun hs => ?_) (fun hs => ?_) | refine WLB_split (fun hs => ?_) (fun hs => ?_)))
    all_goals (try (have hs' := hs; simp at hs'))
    all_goals (try simp [*, -getElem?_pos, afterY, g2, g4, h0, h2, h6, h7, h8, hlt, -Int.natCast_add])
    · refine hQ2 ?_ _ _
      simp [hd, chain, *]
    · refine (WL_of (c := L98)).1 (ih (i + 1) (by omega) (by omega) n _ ?_ ?_ ?_ ?_ ?_ Q (fun hc => hQ1 ?_) (fun hc => hQ2 ?_))
      · simp [-getElem?_pos, h0]
      · simp [-getElem?_pos, h2]
      · simp [-getElem?_pos, h6]
      · simp [-getElem?_pos, h7]
      · simp [-getElem?_pos, hw, -Int.natCast_add]
      · simp [hd, chain, *]
      · simp [hd, chain, *]
theorem list_Right : Pure Try.prog 75 listRight_F := by
  refine con TLS_ok rfl rfl fun ⟨x, l⟩ hl => ⟨rfl, ?_⟩
  simp [cf75, -getElem?_pos, SI]
  refine WLC_fn (cf := cf92) rfl rfl rfl ?_
  simp [cf92, afterC, -getElem?_pos]
  refine WL_range (cf := cf98) rfl rfl rfl rfl ?_
  simp [cf98, -getElem?_pos, stepK.lenA, rowsI_length]
  rw [WL_code]
  refine sides_loop x l hl _ ?_ ?_ l.length 0 (by omega) (by omega) x _ ?_ ?_ ?_ ?_ ?_ _ (fun hc env' a' => ?_) (fun hc env' a' => ?_)
  all_goals (try (simp [-getElem?_pos]; done))
  · simp at hc
    simp [-getElem?_pos, afterR, stepK.lenA, rowsI_length, listRight, hc]
    omega
  · simp at hc
    simp [-getElem?_pos, afterR, listRight, hc]
noncomputable abbrev list_Right_F := listRight_F
end Go.Proofs.Ytbeocehhclfbiaa.Lite
namespace Go.Proofs.Ytbeocehhclfbiaa.Lite
open Go
attribute [local simp] WL_of WL_nil WL_blk WL_skip WL_label WL_exit WL_goto WL_seq WL_block WL_cond WL_reg WL_ret WJ_nil WJ_ex WJ_gt WJ_rt WJ_exb WJ_gtb WJ_rtb WLO_nil WLO_call WO_mv WO_pick WO_new WO_box WO_ld WO_ldn WO_st WO_off WO_ixa WO_ixs WO_fld WO_fldn WO_ixv WO_ixvn WO_ixb WO_bin WO_eqb WO_isn WO_eqs WO_not WO_conv WO_mkf WO_bld WO_bls WO_sla WO_sls WO_sl0 WO_len WO_app WO_mnx WO_ext WO_nilc wants_none wants_some wantv_b wantv_t WLV_true WLV_false WLC_false WLB_true WLB_false evX_t evX_c evXs_nil evXs_cons look_put look_putN look_cons look_arg0 look_arg stepK binOpA intOp strOp evRes oneOf outs gc toDV AV.dat? I Bo av_s List.map List.append_nil getO putO AV.cellsOf bne WL_dreg WLP_nil WLP_call WP_mv WP_pick WP_new WP_box WP_ld WP_ldn WP_off WP_ixa WP_ixs WP_fld WP_fldn WP_ixv WP_ixvn WP_ixb WP_bin WP_eqb WP_isn WP_eqs WP_not WP_conv WP_mkf WP_bld WP_bls WP_sla WP_sls WP_sl0 WP_len WP_app WP_mnx WP_ext WP_nilc WLPV_true WLPV_false WLPC_false WLC_tells WLPC_tells padH onNm onEx List.getElem?_cons_zero List.getElem?_cons_succ List.getElem?_nil restrict AV.lows lay AV.isCell lowObj AObj.lows WJ_nm AV.lows.go WL_scope onGt_rt onGt_nm onGt_ex WL_sreg WP_st preSt eraseB List.set_cons_zero List.set_cons_succ

class Fact (p : Prop) : Prop where
  out : p

structure VW where
  id : Int
  base : List Int
  lst : List Int
  pred : Int
  fin : List Int
  hf : fin.length = 16
  hb : base.length < 9223372036854775808
  hl : lst.length < 9223372036854775808

def VW.dats (v : VW) : List Dat := .int .i64 v.id :: .sl (rowsI v.base) :: .sl (rowsI v.lst) :: .int .i64 v.pred :: v.fin.map (.int .i64)
def VW.cs (v : VW) : List AV := .d (.int .i64 v.id) :: vsI v.base :: vsI v.lst :: .d (.int .i64 v.pred) :: v.fin.map fun n => .d (.int .i64 n)
def V (v : VW) : DV := .g v.dats
theorem V_av (v : VW) : (V v).av = .agg v.cs := by simp [V, DV.av, VW.dats, VW.cs]
theorem VW.inj {v u : VW} (h : v.dats = u.dats) : v = u := by
  obtain ⟨a, b, c, d, e, _, _, _⟩ := v
  obtain ⟨a', b', c', d', e', _, _, _⟩ := u
  simp only [VW.dats, List.cons.injEq, Dat.int.injEq, true_and, Dat.sl.injEq] at h
  obtain ⟨rfl, h1, h2, rfl, h3⟩ := h
  have := rowsI_inj h1; subst this
  have := rowsI_inj h2; subst this
  have h4 : e = e' := by
    refine (List.map_inj_right ?_).1 h3
    intro x y hxy; simpa using hxy
  subst h4; rfl
theorem cs_length (v : VW) : v.cs.length = 20 := by simp [VW.cs, v.hf]
theorem cs_take (v : VW) : v.cs.take 20 = v.cs := List.take_of_length_le (by rw [cs_length]; exact Nat.le_refl _)
theorem cs_0 (v : VW) : v.cs[0]? = some (.d (.int .i64 v.id)) := rfl
theorem cs_1 (v : VW) : v.cs[1]? = some (vsI v.base) := rfl
theorem cs_2 (v : VW) : v.cs[2]? = some (vsI v.lst) := rfl
theorem cs_3 (v : VW) : v.cs[3]? = some (.d (.int .i64 v.pred)) := rfl
theorem cs_4 (v : VW) (i : Nat) : v.cs[4 + i]? = (v.fin[i]?).map fun n => .d (.int .i64 n) := by
  rw [Nat.add_comm]; simp [VW.cs]
theorem cs_fin (v : VW) : (v.cs.drop 4).take 16 = v.fin.map fun n => .d (.int .i64 n) := by
  show (v.fin.map _).take 16 = _
  exact List.take_of_length_le (by simp [v.hf])
theorem lows_ints (N M : Nat) : ∀ l : List Int, AV.lows.go N M (l.map fun n => .d (.int .i64 n)) = true
  | [] => rfl
  | n :: l => by simp [AV.lows.go, AV.lows, lows_ints N M l]
theorem cs_lows (v : VW) (N M : Nat) : AV.lows.go N M v.cs = true := by simp [VW.cs, AV.lows.go, AV.lows, lows_ints]
theorem go_all (N M : Nat) : ∀ l : List AV, l.all (AV.lows N M) = AV.lows.go N M l
  | [] => rfl
  | x :: l => by simp [AV.lows.go, go_all N M l]
theorem cs_all (v : VW) (N M : Nat) : v.cs.all (AV.lows N M) = true := by rw [go_all]; exact cs_lows v N M
theorem dats_ints : ∀ l : List Int, dats? (l.map fun n => .d (.int .i64 n)) = some (l.map (.int .i64))
  | [] => rfl
  | n :: l => by simp [dats?, AV.dat?, dats_ints l]
theorem cs_dats (v : VW) : dats? v.cs = some v.dats := by simp [VW.cs, VW.dats, dats?, AV.dat?, dats_ints]

def other (id n : Int) : Bool := n == -1 || (isPlace n && !(n == id))
noncomputable def other_F := orcOf (fun p : VW × Int => [V p.1, I p.2]) (fun _ => True) (fun p => [Bo (other p.1.id p.2)])
instance (v : VW) (n : Int) : Tells other_F [.agg v.cs, .d (.int .i64 n)] (.d (.bool (other v.id n))) :=
  ⟨[V v, I n], [Bo (other v.id n)], fun h => by simp [toDVs, toDV, cs_dats, AV.dat?, V, I], orcOf_eq (enc := fun p : VW × Int => [V p.1, I p.2]) (x := (v, n)) trivial (fun y h => by
    simp only [V, I, List.cons.injEq, DV.g.injEq, DV.s.injEq, Dat.int.injEq, true_and, and_true] at h
    exact Prod.ext (VW.inj h.1) h.2), rfl, rfl, fun _ _ => by simp [AV.lows, cs_lows]⟩
noncomputable def TO : Tbl := tbl [(58, garlandref13_place_F)]
theorem TO_ok : TblOK Try.prog TO := tbl_ok (by
  simp only [List.mem_cons, List.not_mem_nil, or_false]
  rintro p (rfl)
  · exact garlandref13_place)
instance : Has TO 58 garlandref13_place_F := ⟨rfl⟩

theorem garlandref13_other : Pure Try.prog 60 other_F := by
  refine con TO_ok rfl rfl fun ⟨v, n⟩ _ => ⟨rfl, ?_⟩
  simp [cf60, V_av, -getElem?_pos, cs_0, cs_lows, cs_all, other]
  all_goals (try (first | refine WLV_splitN (fun hs => ?_) (fun hs => ?_) | refine WLC_splitN (fun hs => ?_) (fun hs => ?_) | refine WLB_splitN (fun hs => ?_) (fun hs => ?_) | refine WLPV_splitN (fun hs => ?_) (fun hs => ?_) | refine WLPC_splitN (fun hs => ?_) (fun hs => ?_) | refine WLPV_split (fun hs => ?_) (fun hs => ?_) | refine WLPC_split (fun hs => ?_) (fun hs => ?_) | refine WLV_split (fun hs => ?_) (fun hs => ?_) | refine WLC_split (fun hs => ?_) (fun hs => ?_) | refine WLB_split (fun hs => ?_) (fun hs => ?_)))
  all_goals (try (have hs' := hs; simp at hs'))
  all_goals (try simp [*, -getElem?_pos, cs_0, cs_lows, cs_all])
  all_goals (try (first | refine WLV_splitN (fun hs => ?_) (fun hs => ?_) | refine WLC_splitN (fun hs => ?_) (fun hs => ?_) | refine WLB_splitN (fun hs => ?_) (fun hs => ?_) | refine WLPV_splitN (fun hs => ?_) (fun hs => ?_) | refine WLPC_splitN (fun hs => ?_) (fun hs => ?_) | refine WLPV_split (fun hs => ?_) (fun hs => ?_) | refine WLPC_split (fun hs => ?_) (fun hs => ?_) | refine WLV_split (fun hs => ?_) (fun hs => ?_) | refine WLC_split (fun hs => ?_) (fun hs => ?_) | refine WLB_split (fun hs => ?_) (fun hs => ?_)))
  all_goals (try (have hs' := hs; simp at hs'))
  all_goals (try simp [*, -getElem?_pos, cs_0, cs_lows, cs_all])
noncomputable abbrev garlandref13_other_F := other_F

def bAt (l : List Int) (j : Nat) (n : Int) : Bool := isPlace n && (j == 0 || decide (l.getD (j - 1) 0 < n))
noncomputable def TR13 : Tbl := tbl [(58, garlandref13_place_F), (59, garlandref12_Right_F), (60, garlandref13_other_F)]
theorem TR13_ok : TblOK Try.prog TR13 := tbl_ok (by
  simp only [List.mem_cons, List.not_mem_nil, or_false]
  rintro p (rfl | rfl | rfl)
  · exact garlandref13_place
  · exact garlandref12_Right
  · exact garlandref13_other)
instance : Has TR13 58 garlandref13_place_F := ⟨rfl⟩
instance : Has TR13 59 garlandref12_Right_F := ⟨rfl⟩
instance : Has TR13 60 garlandref13_other_F := ⟨rfl⟩

def L24a : CCode := (.loop [1, 3] (.seq (.seq (.reg (⟨(some 36), .mv (.t 3), none⟩ ::
    ⟨(some 37), .off 1 (.t 1), none⟩ ::
    ⟨(some 38), .ld (.t 37), none⟩ ::
    ⟨(some 39), .len false (.t 38), none⟩ ::
    ⟨(some 40), .bin .lss (.t 36) (.t 39), none⟩ ::
    []))
  (.cond (.t 40) .skip (.exit 0)))
  (.seq (.block 1 (.seq (.dreg (⟨(some 43), .off 1 (.t 1), none⟩ ::
    ⟨(some 44), .ld (.t 43), none⟩ ::
    ⟨(some 45), .mv (.t 3), none⟩ ::
    ⟨(some 46), .ixs 1 (.t 44) (.t 45), none⟩ ::
    ⟨(some 47), .ld (.t 46), none⟩ ::
    ⟨(some 48), .call (.c (.fn 58 [])) [(.t 47)], none⟩ ::
    ⟨(some 49), .not (.t 48), none⟩ ::
    ⟨(some 50), .mv (.t 49), none⟩ ::
    ⟨(some 51), .mv (.t 3), (some (50, false))⟩ ::
    ⟨(some 52), .bin .gtr (.t 51) (.c (.d (.int .i64 0))), (some (50, false))⟩ ::
    ⟨(some 53), .mv (.t 52), (some (50, false))⟩ ::
    ⟨(some 54), .off 1 (.t 1), (some (53, true))⟩ ::
    ⟨(some 55), .ld (.t 54), (some (53, true))⟩ ::
    ⟨(some 56), .mv (.t 3), (some (53, true))⟩ ::
    ⟨(some 57), .ixs 1 (.t 55) (.t 56), (some (53, true))⟩ ::
    ⟨(some 58), .ld (.t 57), (some (53, true))⟩ ::
    ⟨(some 59), .off 1 (.t 1), (some (53, true))⟩ ::
    ⟨(some 60), .ld (.t 59), (some (53, true))⟩ ::
    ⟨(some 61), .mv (.t 3), (some (53, true))⟩ ::
    ⟨(some 62), .bin .sub (.t 61) (.c (.d (.int .i64 1))), (some (53, true))⟩ ::
    ⟨(some 63), .ixs 1 (.t 60) (.t 62), (some (53, true))⟩ ::
    ⟨(some 64), .ld (.t 63), (some (53, true))⟩ ::
    ⟨(some 65), .bin .leq (.t 58) (.t 64), (some (53, true))⟩ ::
    ⟨(some 66), .pick (.t 53) (.t 65) (.c (.d (.bool false))), (some (50, false))⟩ ::
    ⟨(some 67), .pick (.t 50) (.c (.d (.bool true))) (.t 66), none⟩ ::
    []) ([]))
  (.cond (.t 67) (.seq (.reg (⟨(some 2), .mv (.c (.d (.bool false))), none⟩ ::
    []))
  .ret) .skip)))
  (.reg (⟨(some 41), .mv (.t 3), none⟩ ::
    ⟨(some 42), .bin .add (.t 41) (.c (.d (.int .i64 1))), none⟩ ::
    ⟨(some 3), .mv (.t 42), none⟩ ::
    [])))))
theorem L24a_eq : L24a = .loop [1, 3] (.seq (.seq (.reg (⟨(some 36), .mv (.t 3), none⟩ ::
    ⟨(some 37), .off 1 (.t 1), none⟩ ::
    ⟨(some 38), .ld (.t 37), none⟩ ::
    ⟨(some 39), .len false (.t 38), none⟩ ::
    ⟨(some 40), .bin .lss (.t 36) (.t 39), none⟩ ::
    []))
  (.cond (.t 40) .skip (.exit 0)))
  (.seq (.block 1 (.seq (.dreg (⟨(some 43), .off 1 (.t 1), none⟩ ::
    ⟨(some 44), .ld (.t 43), none⟩ ::
    ⟨(some 45), .mv (.t 3), none⟩ ::
    ⟨(some 46), .ixs 1 (.t 44) (.t 45), none⟩ ::
    ⟨(some 47), .ld (.t 46), none⟩ ::
    ⟨(some 48), .call (.c (.fn 58 [])) [(.t 47)], none⟩ ::
    ⟨(some 49), .not (.t 48), none⟩ ::
    ⟨(some 50), .mv (.t 49), none⟩ ::
    ⟨(some 51), .mv (.t 3), (some (50, false))⟩ ::
    ⟨(some 52), .bin .gtr (.t 51) (.c (.d (.int .i64 0))), (some (50, false))⟩ ::
    ⟨(some 53), .mv (.t 52), (some (50, false))⟩ ::
    ⟨(some 54), .off 1 (.t 1), (some (53, true))⟩ ::
    ⟨(some 55), .ld (.t 54), (some (53, true))⟩ ::
    ⟨(some 56), .mv (.t 3), (some (53, true))⟩ ::
    ⟨(some 57), .ixs 1 (.t 55) (.t 56), (some (53, true))⟩ ::
    ⟨(some 58), .ld (.t 57), (some (53, true))⟩ ::
    ⟨(some 59), .off 1 (.t 1), (some (53, true))⟩ ::
    ⟨(some 60), .ld (.t 59), (some (53, true))⟩ ::
    ⟨(some 61), .mv (.t 3), (some (53, true))⟩ ::
    ⟨(some 62), .bin .sub (.t 61) (.c (.d (.int .i64 1))), (some (53, true))⟩ ::
    ⟨(some 63), .ixs 1 (.t 60) (.t 62), (some (53, true))⟩ ::
    ⟨(some 64), .ld (.t 63), (some (53, true))⟩ ::
    ⟨(some 65), .bin .leq (.t 58) (.t 64), (some (53, true))⟩ ::
    ⟨(some 66), .pick (.t 53) (.t 65) (.c (.d (.bool false))), (some (50, false))⟩ ::
    ⟨(some 67), .pick (.t 50) (.c (.d (.bool true))) (.t 66), none⟩ ::
    []) ([]))
  (.cond (.t 67) (.seq (.reg (⟨(some 2), .mv (.c (.d (.bool false))), none⟩ ::
    []))
  .ret) .skip)))
  (.reg (⟨(some 41), .mv (.t 3), none⟩ ::
    ⟨(some 42), .bin .add (.t 41) (.c (.d (.int .i64 1))), none⟩ ::
    ⟨(some 3), .mv (.t 42), none⟩ ::
    [])))) := rfl
theorem base13_loop (v : VW) : ∀ (k i : Nat), v.base.length - i = k → i ≤ v.base.length → ∀ (env : Env), look env 1 = some (.ptr 0 0) → look env 3 = some (.d (.int .i64 i)) →
    ∀ (Q : Ex → Env → St → Prop), ((∀ j n, i ≤ j → v.base[j]? = some n → bAt v.base j n = true) → ∀ env', look env' 1 = some (.ptr 0 0) → Q (.ex 0) env' ⟨[some (.cells v.cs)], []⟩) →
      ((∃ j n, i ≤ j ∧ v.base[j]? = some n ∧ bAt v.base j n = false) → ∀ env' h', look env' 2 = some (.d (.bool false)) → Q .rt env' ⟨some (.cells v.cs) :: h', []⟩) → W TR13 ⟨[], 0⟩ L24a env ⟨[some (.cells v.cs)], []⟩ Q := by
  have hl := v.hb
  intro k
  induction k with
  | zero =>
    intro i hk hi env h1 h3 Q hQ1 hQ2
    have hlt : ¬ i < v.base.length := by omega
    rw [L24a_eq, W_loop]
    simp [-getElem?_pos, h1, h3, cs_1, stepK.lenA, rowsI_length, hlt]
    refine hQ1 (fun j n hj hn => absurd (List.getElem?_eq_some_iff.1 hn).1 (by omega)) _ ?_ <;> simp [-getElem?_pos, h1]
  | succ k ih =>
    intro i hk hi env h1 h3 Q hQ1 hQ2
    have hlt : i < v.base.length := by omega
    obtain ⟨n, hn⟩ : ∃ n, v.base[i]? = some n := ⟨_, List.getElem?_eq_getElem hlt⟩
    have bad : bAt v.base i n = false → ∃ j n, i ≤ j ∧ v.base[j]? = some n ∧ bAt v.base j n = false := fun h => ⟨i, n, Nat.le_refl _, hn, h⟩
    have hw := wrapN1 i (by omega)
    rw [L24a_eq, W_loop]
    cases i with
    | zero =>
      simp [-getElem?_pos, h1, h3, cs_1, stepK.lenA, rowsI_length, rowsI_get, hn, hlt]
      all_goals (try (first | refine WLV_splitN (fun hs => ?_) (fun hs => ?_) | refine WLC_splitN (fun hs => ?_) (fun hs => ?_) | refine WLB_splitN (fun hs => ?_) (fun hs => ?_) | refine WLPV_splitN (fun hs => ?_) (fun hs => ?_) | refine WLPC_splitN (fun hs => ?_) (fun hs => ?_) | refine WLPV_split (fun hs => ?_) (fun hs => ?_) | refine WLPC_split (fun hs => ?_) (fun hs => ?_) | refine WLV_split (fun hs => ?_) (fun hs => ?_) | refine WLC_split (fun hs => ?_) (fun hs => ?_) | refine WLB_split (fun hs => ?_) (fun hs => ?_)))
      all_goals (try (have hs' := hs; simp at hs'))
      all_goals (try simp [*, -getElem?_pos, h1, h3, cs_1, rowsI_get, hn, cs_all, cs_lows])
      all_goals (try (first | refine WLV_splitN (fun hs => ?_) (fun hs => ?_) | refine WLC_splitN (fun hs => ?_) (fun hs => ?_) | refine WLB_splitN (fun hs => ?_) (fun hs => ?_) | refine WLPV_splitN (fun hs => ?_) (fun hs => ?_) | refine WLPC_splitN (fun hs => ?_) (fun hs => ?_) | refine WLPV_split (fun hs => ?_) (fun hs => ?_) | refine WLPC_split (fun hs => ?_) (fun hs => ?_) | refine WLV_split (fun hs => ?_) (fun hs => ?_) | refine WLC_split (fun hs => ?_) (fun hs => ?_) | refine WLB_split (fun hs => ?_) (fun hs => ?_)))
      all_goals (try (have hs' := hs; simp at hs'))
      all_goals (try simp [*, -getElem?_pos, h1, h3, cs_1, rowsI_get, hn, cs_all, cs_lows])
      all_goals (try (first | refine WLV_splitN (fun hs => ?_) (fun hs => ?_) | refine WLC_splitN (fun hs => ?_) (fun hs => ?_) | refine WLB_splitN (fun hs => ?_) (fun hs => ?_) | refine WLPV_splitN (fun hs => ?_) (fun hs => ?_) | refine WLPC_splitN (fun hs => ?_) (fun hs => ?_) | refine WLPV_split (fun hs => ?_) (fun hs => ?_) | refine WLPC_split (fun hs => ?_) (fun hs => ?_) | refine WLV_split (fun hs => ?_) (fun hs => ?_) | refine WLC_split (fun hs => ?_) (fun hs => ?_) | refine WLB_split (fun hs => ?_) (fun hs => ?_)))
      all_goals (try (have hs' := hs; simp at hs'))
      all_goals (try simp [*, -getElem?_pos, h1, h3, cs_1, rowsI_get, hn, cs_all, cs_lows])
      all_goals first
        | (refine hQ2 (bad ?_) _ _ ?_ <;> simp [*, bAt, -getElem?_pos]; done)
        | (refine (WL_of (c := L24a)).1 (ih 1 (by omega) (by omega) _ ?_ ?_ Q (fun hall => hQ1 fun j m hj hm => ?_) (fun ⟨j, m, hj, h⟩ => hQ2 ⟨j, m, by omega, h⟩))
           · simp [-getElem?_pos, h1]
           · simp [-getElem?_pos]; rfl
           · cases j with
             | zero => rw [hn] at hm; cases hm; simp [*, bAt]
             | succ j => exact hall _ m (by omega) hm)
    | succ j =>
      obtain ⟨m, hm⟩ : ∃ m, v.base[j]? = some m := ⟨_, List.getElem?_eq_getElem (by omega)⟩
      have hw1 := wrapN j (by omega)
      have hgd : v.base.getD j 0 = m := by rw [List.getD_eq_getElem?_getD, hm]; rfl
      have e1 : ((↑(j + 1) : Int) - 1) = (j : Int) := by omega
      have e2 : (0 : Int) < ↑(j + 1) := by omega
      simp [-getElem?_pos, h1, h3, cs_1, stepK.lenA, rowsI_length, rowsI_get, hn, hlt, -Int.natCast_add]
      all_goals (try (first | refine WLV_splitN (fun hs => ?_) (fun hs => ?_) | refine WLC_splitN (fun hs => ?_) (fun hs => ?_) | refine WLB_splitN (fun hs => ?_) (fun hs => ?_) | refine WLPV_splitN (fun hs => ?_) (fun hs => ?_) | refine WLPC_splitN (fun hs => ?_) (fun hs => ?_) | refine WLPV_split (fun hs => ?_) (fun hs => ?_) | refine WLPC_split (fun hs => ?_) (fun hs => ?_) | refine WLV_split (fun hs => ?_) (fun hs => ?_) | refine WLC_split (fun hs => ?_) (fun hs => ?_) | refine WLB_split (fun hs => ?_) (fun hs => ?_)))
      all_goals (try (have hs' := hs; simp at hs'))
      all_goals (try simp [*, -getElem?_pos, h1, h3, cs_1, rowsI_get, hn, cs_all, cs_lows, -Int.natCast_add])
      all_goals (try (first | refine WLV_splitN (fun hs => ?_) (fun hs => ?_) | refine WLC_splitN (fun hs => ?_) (fun hs => ?_) | refine WLB_splitN (fun hs => ?_) (fun hs => ?_) | refine WLPV_splitN (fun hs => ?_) (fun hs => ?_) | refine WLPC_splitN (fun hs => ?_) (fun hs => ?_) | refine WLPV_split (fun hs => ?_) (fun hs => ?_) | refine WLPC_split (fun hs => ?_) (fun hs => ?_) | refine WLV_split (fun hs => ?_) (fun hs => ?_) | refine WLC_split (fun hs => ?_) (fun hs => ?_) | refine WLB_split (fun hs => ?_) (fun hs => ?_)))
      all_goals (try (have hs' := hs; simp at hs'))
      all_goals (try simp [*, -getElem?_pos, h1, h3, cs_1, rowsI_get, hn, cs_all, cs_lows, -Int.natCast_add])
      all_goals (try (first | refine WLV_splitN (fun hs => ?_) (fun hs => ?_) | refine WLC_splitN (fun hs => ?_) (fun hs => ?_) | refine WLB_splitN (fun hs => ?_) (fun hs => ?_) | refine WLPV_splitN (fun hs => ?_) (fun hs => ?_) | refine WLPC_splitN (fun hs => ?_) (fun hs => ?_) | refine WLPV_split (fun hs => ?_) (fun hs => ?_) | refine WLPC_split (fun hs => ?_) (fun hs => ?_) | refine WLV_split (fun hs => ?_) (fun hs => ?_) | refine WLC_split (fun hs => ?_) (fun hs => ?_) | refine WLB_split (fun hs => ?_) (fun hs => ?_)))
      all_goals (try (have hs' := hs; simp at hs'))
      all_goals (try simp [*, -getElem?_pos, h1, h3, cs_1, rowsI_get, hn, cs_all, cs_lows, -Int.natCast_add])
      all_goals (try (first | refine WLV_splitN (fun hs => ?_) (fun hs => ?_) | refine WLC_splitN (fun hs => ?_) (fun hs => ?_) | refine WLB_splitN (fun hs => ?_) (fun hs => ?_) | refine WLPV_splitN (fun hs => ?_) (fun hs => ?_) | refine WLPC_splitN (fun hs => ?_) (fun hs => ?_) | refine WLPV_split (fun hs => ?_) (fun hs => ?_) | refine WLPC_split (fun hs => ?_) (fun hs => ?_) | refine WLV_split (fun hs => ?_) (fun hs => ?_) | refine WLC_split (fun hs => ?_) (fun hs => ?_) | refine WLB_split (fun hs => ?_) (fun hs => ?_)))
      all_goals (try (have hs' := hs; simp at hs'))
      all_goals (try simp [*, -getElem?_pos, h1, h3, cs_1, rowsI_get, hn, cs_all, cs_lows, -Int.natCast_add])
      all_goals first
        | (refine hQ2 (bad ?_) _ _ ?_ <;> simp [*, bAt, -getElem?_pos]; done)
        | (refine (WL_of (c := L24a)).1 (ih (j + 1 + 1) (by omega) (by omega) _ ?_ ?_ Q (fun hall => hQ1 fun i m' hi hm' => ?_) (fun ⟨i, m', hi, h⟩ => hQ2 ⟨i, m', by omega, h⟩))
           · simp [-getElem?_pos, h1]
           · simp [-getElem?_pos, hw, -Int.natCast_add]
           · rcases Nat.lt_or_ge (j + 1) i with h | h
             · exact hall _ m' (by omega) hm'
             · have : i = j + 1 := by omega
               subst this
               rw [hn] at hm'; cases hm'; simp [*, bAt])

theorem cs_4i (v : VW) (i : Nat) : v.cs[4 + i]? = (v.fin[i]?).map fun n => .d (.int .i64 n) := cs_4 v i
def L24b : CCode := (.loop [1, 4] (.seq (.seq (.reg (⟨(some 68), .mv (.t 4), none⟩ ::
    ⟨(some 69), .bin .lss (.t 68) (.c (.d (.int .i64 16))), none⟩ ::
    []))
  (.cond (.t 69) .skip (.exit 2)))
  (.seq (.block 3 (.seq (.dreg (⟨(some 72), .ldn 20 (.t 1), none⟩ ::
    ⟨(some 73), .mv (.t 4), none⟩ ::
    ⟨(some 74), .off 4 (.t 1), none⟩ ::
    ⟨(some 75), .ixa 16 1 (.t 74) (.t 73), none⟩ ::
    ⟨(some 76), .ld (.t 75), none⟩ ::
    ⟨(some 77), .call (.c (.fn 60 [])) [(.t 72), (.t 76)], none⟩ ::
    ⟨(some 78), .not (.t 77), none⟩ ::
    []) ([]))
  (.cond (.t 78) (.seq (.reg (⟨(some 2), .mv (.c (.d (.bool false))), none⟩ ::
    []))
  .ret) .skip)))
  (.reg (⟨(some 70), .mv (.t 4), none⟩ ::
    ⟨(some 71), .bin .add (.t 70) (.c (.d (.int .i64 1))), none⟩ ::
    ⟨(some 4), .mv (.t 71), none⟩ ::
    [])))))
theorem L24b_eq : L24b = .loop [1, 4] (.seq (.seq (.reg (⟨(some 68), .mv (.t 4), none⟩ ::
    ⟨(some 69), .bin .lss (.t 68) (.c (.d (.int .i64 16))), none⟩ ::
    []))
  (.cond (.t 69) .skip (.exit 2)))
  (.seq (.block 3 (.seq (.dreg (⟨(some 72), .ldn 20 (.t 1), none⟩ ::
    ⟨(some 73), .mv (.t 4), none⟩ ::
    ⟨(some 74), .off 4 (.t 1), none⟩ ::
    ⟨(some 75), .ixa 16 1 (.t 74) (.t 73), none⟩ ::
    ⟨(some 76), .ld (.t 75), none⟩ ::
    ⟨(some 77), .call (.c (.fn 60 [])) [(.t 72), (.t 76)], none⟩ ::
    ⟨(some 78), .not (.t 77), none⟩ ::
    []) ([]))
  (.cond (.t 78) (.seq (.reg (⟨(some 2), .mv (.c (.d (.bool false))), none⟩ ::
    []))
  .ret) .skip)))
  (.reg (⟨(some 70), .mv (.t 4), none⟩ ::
    ⟨(some 71), .bin .add (.t 70) (.c (.d (.int .i64 1))), none⟩ ::
    ⟨(some 4), .mv (.t 71), none⟩ ::
    [])))) := rfl
theorem fin13_loop (v : VW) : ∀ (k i : Nat), 16 - i = k → i ≤ 16 → ∀ (env : Env), look env 1 = some (.ptr 0 0) → look env 4 = some (.d (.int .i64 i)) →
    ∀ (Q : Ex → Env → St → Prop), ((∀ n ∈ v.fin.drop i, other v.id n = true) → ∀ env', look env' 1 = some (.ptr 0 0) → Q (.ex 2) env' ⟨[some (.cells v.cs)], []⟩) →
      ((∃ n ∈ v.fin.drop i, other v.id n = false) → ∀ env' h', look env' 2 = some (.d (.bool false)) → Q .rt env' ⟨some (.cells v.cs) :: h', []⟩) → W TR13 ⟨[], 0⟩ L24b env ⟨[some (.cells v.cs)], []⟩ Q := by
  have hf := v.hf
  intro k
  induction k with
  | zero =>
    intro i hk hi env h1 h4 Q hQ1 hQ2
    have hlt : ¬ i < 16 := by omega
    rw [L24b_eq, W_loop]
    have e : ¬ ((i : Int) < 16) := by omega
    simp [-getElem?_pos, h1, h4, hlt, e]
    refine hQ1 (fun n hn => ?_) _ ?_
    · rw [List.drop_eq_nil_of_le (by omega)] at hn; cases hn
    · simp [-getElem?_pos, h1]
  | succ k ih =>
    intro i hk hi env h1 h4 Q hQ1 hQ2
    have hlt : i < 16 := by omega
    obtain ⟨n, hn⟩ : ∃ n, v.fin[i]? = some n := ⟨_, List.getElem?_eq_getElem (by omega)⟩
    have hd : v.fin.drop i = n :: v.fin.drop (i + 1) := by rw [List.drop_eq_getElem_cons (by omega)]; congr 1; exact (List.getElem?_eq_some_iff.1 hn).2
    have hw := wrapN1 i (by omega)
    have e : ((i : Int) < 16) := by omega
    rw [L24b_eq, W_loop]
    simp [-getElem?_pos, h1, h4, hlt, e, cs_4i, hn, cs_length, cs_take, cs_all, cs_lows, -Int.natCast_add]
    all_goals (try (first | refine WLV_splitN (fun hs => ?_) (fun hs => ?_) | refine WLC_splitN (fun hs => ?_) (fun hs => ?_) | refine WLB_splitN (fun hs => ?_) (fun hs => ?_) | refine WLPV_splitN (fun hs => ?_) (fun hs => ?_) | refine WLPC_splitN (fun hs => ?_) (fun hs => ?_) | refine WLPV_split (fun hs => ?_) (fun hs => ?_) | refine WLPC_split (fun hs => ?_) (fun hs => ?_) | refine WLV_split (fun hs => ?_) (fun hs => ?_) | refine WLC_split (fun hs => ?_) (fun hs => ?_) | refine WLB_split (fun hs => ?_) (fun hs => ?_)))
    all_goals (try (have hs' := hs; simp at hs'))
    all_goals (try simp [*, -getElem?_pos, h1, h4, hn, cs_all, cs_lows, -Int.natCast_add])
    all_goals first
      | (refine hQ2 ⟨n, by rw [hd]; simp, ?_⟩ _ _ ?_ <;> simp [*, -getElem?_pos]; done)
      | (refine (WL_of (c := L24b)).1 (ih (i + 1) (by omega) (by omega) _ ?_ ?_ Q (fun hall => hQ1 fun m hm => ?_) (fun ⟨m, hm, h⟩ => hQ2 ⟨m, by rw [hd]; exact List.mem_cons_of_mem _ hm, h⟩))
         · simp [-getElem?_pos, h1]
         · simp [-getElem?_pos, hw, -Int.natCast_add]
         · rw [hd] at hm
           rcases List.mem_cons.1 hm with rfl | hm
           · assumption
           · exact hall m hm)

/-! ### which views may be -/
def baseOk (l : List Int) : Bool := (List.range l.length).all fun j => bAt l j (l.getD j 0)
theorem baseOk_iff (l : List Int) : baseOk l = true ↔ ∀ j n, l[j]? = some n → bAt l j n = true := by
  unfold baseOk
  rw [List.all_eq_true]
  constructor
  · intro h j n hn
    have := h j (List.mem_range.2 (List.getElem?_eq_some_iff.1 hn).1)
    rwa [List.getD_eq_getElem?_getD, hn] at this
  · intro h j hj
    rw [List.mem_range] at hj
    have hn : l[j]? = some l[j] := List.getElem?_eq_getElem hj
    have := h j _ hn
    rwa [List.getD_eq_getElem?_getD, hn]
def VW.right (v : VW) : Bool := isPlace v.id && decide (2 ≤ v.base.length) && decide (v.base.length ≤ 4) && listRight v.id v.lst && other v.id v.pred && baseOk v.base && v.fin.all (other v.id)
noncomputable def right_F := orcOf (fun v : VW => [V v]) (fun _ => True) (fun v => [Bo v.right])
instance (v : VW) : Tells right_F [.agg v.cs] (.d (.bool v.right)) :=
  ⟨[V v], [Bo v.right], fun h => by simp [toDVs, toDV, cs_dats, V], orcOf_eq (enc := fun v : VW => [V v]) (x := v) trivial (fun y h => by
    simp only [V, List.cons.injEq, DV.g.injEq, and_true] at h
    exact VW.inj h), rfl, rfl, fun _ _ => by simp [AV.lows, cs_lows]⟩
instance (x : Int) (l : List Int) [h : Fact (l.length < 9223372036854775808)] : Tells listRight_F [.d (.int .i64 x), .d (.sl (rowsI l))] (.d (.bool (listRight x l))) :=
  ⟨[I x, SI l], [Bo (listRight x l)], fun h => by simp [toDVs, toDV, AV.dat?, I, SI], orcOf_eq (enc := fun p : Int × List Int => [I p.1, SI p.2]) (x := (x, l)) h.out (fun y h => by
    simp only [I, SI, List.cons.injEq, DV.s.injEq, Dat.int.injEq, Dat.sl.injEq, true_and, and_true] at h
    exact Prod.ext h.1 (rowsI_inj h.2)), rfl, rfl, fun _ _ => rfl⟩
instance (v : VW) : Fact (v.lst.length < 9223372036854775808) := ⟨v.hl⟩
instance (v : VW) : Fact (v.base.length < 9223372036854775808) := ⟨v.hb⟩

theorem garlandref13_Right : Pure Try.prog 24 right_F := by
  refine con TR13_ok rfl rfl fun v _ => ⟨rfl, ?_⟩
  simp [cf24, V_av, -getElem?_pos, cs_0, cs_1, cs_2, cs_3, cs_length, cs_take, cs_lows, cs_all, stepK.lenA, rowsI_length]
  all_goals (try (first | refine WLV_splitN (fun hs => ?_) (fun hs => ?_) | refine WLC_splitN (fun hs => ?_) (fun hs => ?_) | refine WLB_splitN (fun hs => ?_) (fun hs => ?_) | refine WLPV_splitN (fun hs => ?_) (fun hs => ?_) | refine WLPC_splitN (fun hs => ?_) (fun hs => ?_) | refine WLPV_split (fun hs => ?_) (fun hs => ?_) | refine WLPC_split (fun hs => ?_) (fun hs => ?_) | refine WLV_split (fun hs => ?_) (fun hs => ?_) | refine WLC_split (fun hs => ?_) (fun hs => ?_) | refine WLB_split (fun hs => ?_) (fun hs => ?_)))
  all_goals (try (have hs' := hs; simp at hs'))
  all_goals (try simp [*, -getElem?_pos, cs_0, cs_1, cs_2, cs_3, cs_length, cs_take, cs_lows, cs_all, stepK.lenA, rowsI_length])
  all_goals (try (first | refine WLV_splitN (fun hs => ?_) (fun hs => ?_) | refine WLC_splitN (fun hs => ?_) (fun hs => ?_) | refine WLB_splitN (fun hs => ?_) (fun hs => ?_) | refine WLPV_splitN (fun hs => ?_) (fun hs => ?_) | refine WLPC_splitN (fun hs => ?_) (fun hs => ?_) | refine WLPV_split (fun hs => ?_) (fun hs => ?_) | refine WLPC_split (fun hs => ?_) (fun hs => ?_) | refine WLV_split (fun hs => ?_) (fun hs => ?_) | refine WLC_split (fun hs => ?_) (fun hs => ?_) | refine WLB_split (fun hs => ?_) (fun hs => ?_)))
  all_goals (try (have hs' := hs; simp at hs'))
  all_goals (try simp [*, -getElem?_pos, cs_0, cs_1, cs_2, cs_3, cs_length, cs_take, cs_lows, cs_all, stepK.lenA, rowsI_length])
  all_goals (try (first | refine WLV_splitN (fun hs => ?_) (fun hs => ?_) | refine WLC_splitN (fun hs => ?_) (fun hs => ?_) | refine WLB_splitN (fun hs => ?_) (fun hs => ?_) | refine WLPV_splitN (fun hs => ?_) (fun hs => ?_) | refine WLPC_splitN (fun hs => ?_) (fun hs => ?_) | refine WLPV_split (fun hs => ?_) (fun hs => ?_) | refine WLPC_split (fun hs => ?_) (fun hs => ?_) | refine WLV_split (fun hs => ?_) (fun hs => ?_) | refine WLC_split (fun hs => ?_) (fun hs => ?_) | refine WLB_split (fun hs => ?_) (fun hs => ?_)))
  all_goals (try (have hs' := hs; simp at hs'))
  all_goals (try simp [*, -getElem?_pos, cs_0, cs_1, cs_2, cs_3, cs_length, cs_take, cs_lows, cs_all, stepK.lenA, rowsI_length])
  all_goals (try (first | refine WLV_splitN (fun hs => ?_) (fun hs => ?_) | refine WLC_splitN (fun hs => ?_) (fun hs => ?_) | refine WLB_splitN (fun hs => ?_) (fun hs => ?_) | refine WLPV_splitN (fun hs => ?_) (fun hs => ?_) | refine WLPC_splitN (fun hs => ?_) (fun hs => ?_) | refine WLPV_split (fun hs => ?_) (fun hs => ?_) | refine WLPC_split (fun hs => ?_) (fun hs => ?_) | refine WLV_split (fun hs => ?_) (fun hs => ?_) | refine WLC_split (fun hs => ?_) (fun hs => ?_) | refine WLB_split (fun hs => ?_) (fun hs => ?_)))
  all_goals (try (have hs' := hs; simp at hs'))
  all_goals (try simp [*, -getElem?_pos, cs_0, cs_1, cs_2, cs_3, cs_length, cs_take, cs_lows, cs_all, stepK.lenA, rowsI_length])
  all_goals (try (first | refine WLV_splitN (fun hs => ?_) (fun hs => ?_) | refine WLC_splitN (fun hs => ?_) (fun hs => ?_) | refine WLB_splitN (fun hs => ?_) (fun hs => ?_) | refine WLPV_splitN (fun hs => ?_) (fun hs => ?_) | refine WLPC_splitN (fun hs => ?_) (fun hs => ?_) | refine WLPV_split (fun hs => ?_) (fun hs => ?_) | refine WLPC_split (fun hs => ?_) (fun hs => ?_) | refine WLV_split (fun hs => ?_) (fun hs => ?_) | refine WLC_split (fun hs => ?_) (fun hs => ?_) | refine WLB_split (fun hs => ?_) (fun hs => ?_)))
  all_goals (try (have hs' := hs; simp at hs'))
  all_goals (try simp [*, -getElem?_pos, cs_0, cs_1, cs_2, cs_3, cs_length, cs_take, cs_lows, cs_all, stepK.lenA, rowsI_length])
  all_goals try (first | (simp [VW.right, *]; done) | (have h3 : v.right = false := (by unfold VW.right; simp; omega); exact h3))
  rw [WL_code]
  have e2 : 2 ≤ v.base.length := by omega
  have e4 : v.base.length ≤ 4 := by omega
  refine base13_loop v v.base.length 0 (by omega) (by omega) _ ?_ ?_ _ (fun hall env' h1 => ?_) (fun hbad env' h' h2 => ?_)
  · simp [-getElem?_pos]
  · simp [-getElem?_pos]
  · simp [-getElem?_pos, h1]
    rw [WL_code]
    have hbo : baseOk v.base = true := (baseOk_iff _).2 fun j n hn => hall j n (Nat.zero_le _) hn
    refine fin13_loop v 16 0 (by omega) (by omega) _ ?_ ?_ _ (fun hall2 env2 h12 => ?_) (fun hbad2 env2 h' h22 => ?_)
    · simp [-getElem?_pos, h1]
    · simp [-getElem?_pos]
    · have hfa : v.fin.all (other v.id) = true := by rw [List.all_eq_true]; exact fun n hn => hall2 n (by simpa using hn)
      simp [-getElem?_pos, h12]
      simp [VW.right, *]
    · have hfa : v.fin.all (other v.id) = false := by
        obtain ⟨n, hn, hb⟩ := hbad2
        cases h : v.fin.all (other v.id) with
        | false => rfl
        | true => rw [List.all_eq_true.1 h n (by simpa using hn)] at hb; cases hb
      simp [-getElem?_pos, h22]
      simp only [VW.right, hfa, Bool.and_false]
  · have hbo : baseOk v.base = false := by
      obtain ⟨j, n, _, hn, hb⟩ := hbad
      cases h : baseOk v.base with
      | false => rfl
      | true => rw [(baseOk_iff _).1 h j n hn] at hb; cases hb
    simp [-getElem?_pos, h2]
    simp only [VW.right, hbo, Bool.and_false, Bool.false_and]
noncomputable abbrev garlandref13_Right_F := right_F
end Go.Proofs.Ytbeocehhclfbiaa.Lite
